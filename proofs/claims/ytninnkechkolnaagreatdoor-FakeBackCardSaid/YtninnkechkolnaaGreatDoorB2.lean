/- Part 2 of what all laws of layer 8 need: a logic of programs that start goroutines, and what the functions yield. -/
import Derived.Test.YtninnkechkolnaaGreatDoorB1
import Derived.Carry
import Derived.ChangeArms
import Derived.ChangeSame
import Derived.ChangeVars
import Derived.Conc.Holds
import Derived.Conc.LeavingOf
import Derived.Conc.Quits
import Derived.FnData
import Derived.LaidHandle
import Derived.LaidLaws
import Derived.LaidMore
import Derived.OpenShut
import Derived.RowKit
import Derived.SevenTiedAt
import Derived.SizedLaws
import Derived.Stop.Joined
import Derived.Test.YtninnkechkolnaaGreatDoorCards
import Derived.Test.YtninnkechkolnaaGreatDoorRows
import Derived.Test.YtninnkechkolnaaGreatDoorTie
import Derived.WideShapes
set_option linter.unusedVariables false
set_option linter.unusedSimpArgs false
set_option maxRecDepth 100000
set_option maxHeartbeats 4000000
namespace Go.Proofs.YtninnkechkolnaaGreatDoor
section
open Go
section
variable{C:Ctx}{e:Env}{ds:List Deferred}{ρ:Ro}{σ:Own}{K:Value→List Deferred→Ro→Own→Prop}{rd:Option Nat}{dd:Option Tmp}
variable{ty:TypeId}{pos:String}{af:Array Edge}{g:Option (Nat×Bool)}{x y:Operand}{v p:Value}{t t':TypeId}{P:Program}
theorem Qm{v:Value}(h:single v=true):v.cells = #[v]:=by
 cases v<;>first|rfl|(simp[single]at h)
/-- One cell of an owned block is stored. -/
theorem Cz{c:List Value}{r off j:Nat}(hz:∃i,C.P.info? t=some i∧i.size=1)(hx:Af e x = .pointer (some ⟨r,off,none⟩))(hy:Af e y=v)(hs:single v=true)
  (hj:σ[j]?=some (r,.obj (.cells c.toArray t' (0,0)))) (hl:off<c.length) (h:K undef ds ρ (σ.set j (r,.obj (.cells (c.set off v).toArray t' (0,0))))) :
  wpS C.P ρ (execOp (Af e) ⟨dd,.store t x y,ty,pos,af,g⟩) σ (NextH C K rd ds ρ):=by
 refine Li (vs:=[v]) (c:=c) (c':=c.set off v) hz hx hy (Qm hs) rfl (by simpa using hs) hj (by simpa using Nat.succ_le_of_lt hl) ?_ h
 simp only[over]
theorem Ajx{k:IntKind}{p q:Int}{tys:Array TypeId}(hx:Af e x = .int k p)(hy:Af e y = .int k q):Yld P ρ e (.call ⟨.builtin .min,#[x,y],tys⟩) ty (.int k (min p q)):=by
 refine Mc (args:=[x,y]) (vs:=[.int k p,.int k q]) (s:=fun _=>pure (.int k (min p q))) (by simp[hx,hy]) (fun cs=>?_) ?_
 ·have a:builtin .min tys ty cs [.int k p,.int k q].toArray=(Builtin.min_ tys ty #[.int k p,.int k q]).bind fun v=>Sem.pure (Next.value v):=rfl
  rw[a]
  have b:Builtin.min_ tys ty #[.int k p,.int k q]=pure (.int k (min p q)):=by
   simp only[Builtin.min_,Ann,List.foldlM_nil,Builtin.min2]
   have:(if q<p then q else p)=min p q:=by split<;>omega
   rw[this];rfl
  rw[b]
 ·exact fun cs ρ' σ' _=>⟨rfl,rfl⟩
def Wu(P:Program):List Field→List Nat→Prop
 | [],[]=>True
 | f::fs,n::ns=>(∃i,P.info? f.type=some i∧i.size=n)∧Wu P fs ns
 | _,_=>False
def Gs:List Field→List Nat→List (Nat×Nat)
 | f::fs,n::ns=>(f.offset,n)::Gs fs ns
 | _,_=>[]
theorem Ux{P:Program}{Q:Array (Nat×Nat)→Own→Prop}:∀(fs:List Field) (ns:List Nat) (acc:Array (Nat×Nat)),Wu P fs ns→Q (acc++(Gs fs ns).toArray) σ →
  wpS P ρ (List.foldlM (m:=Sem) (fun (bs:Array (Nat×Nat)) (f:Field)=>Functor.map bs.push (do pure (f.offset,←sizeOf f.type))) acc fs) σ Q
 | [],[],acc,_,h=>by
  have e1:acc++(Gs [] []).toArray=acc:=by simp[Gs]
  rw[e1]at h
  exact h
 | f::fs,n::ns,acc,hs,h=>by
  rw[Ann]
  show wpS P ρ (Sem.bind _ _) σ Q
  rw[Ad]
  show wpS P ρ (Sem.bind (Sem.bind (sizeOf f.type) _) _) σ _
  rw[Ad,Ad]
  refine Dx hs.1 ?_
  show wpS P ρ (List.foldlM _ (acc.push (f.offset,n)) fs) σ Q
  refine Ux fs ns _ hs.2 ?_
  have e1:acc.push (f.offset,n)++(Gs fs ns).toArray=acc++(Gs (f::fs) (n::ns)).toArray:=by
   apply Array.ext';simp[Gs]
  rw[e1];exact h
theorem Be{place:Nat→Option (Nat×Nat)}{c cs:List Value}{i off:Nat}{v:Value}{rest:List (Nat×Value)}(hv:v.cells=cs.toArray)(hp:place i=some (off,cs.length))(hl:off+cs.length≤c.length) :
  Instr.fill place c.toArray ((i,v)::rest)=Instr.fill place (over c off cs).toArray rest:=by
 simp only[Instr.fill,hp,hv]
 have a:(decide (cs.toArray.size≠cs.length)||decide (off+cs.toArray.size>c.toArray.size))=false:=by
  simp only[Aqx,Bool.or_eq_false_iff,decide_eq_false_iff_not]
  exact⟨by simp,by omega⟩
 rw[if_neg (by simpa using a)]
 congr 1
 have:=Pd cs c off 0
 rw[←Array.foldl_toList]
 simp only[Array.toList_zipIdx,Atw]
 rw[this,Aqz]
theorem Dn{fs:List Field}{ns:List Nat}{z:Value}{zc cs:List Value}{ps:List (Nat×Operand)}{vs:List (Nat×Value)}(hT:P.underlying t=some (.struct fs.toArray))(hz:Fw P t z)(hzc:z.cells=zc.toArray)(hn:Wu P fs ns)
  (hp:ps.map (fun p=>(p.1,Af e p.2))=vs) (hf:Instr.fill ((Gs fs ns)[·]?) zc.toArray vs=some cs.toArray):Yld P ρ e (.build t ps.toArray) ty (.agg cs.toArray) :=
 Mt (s:=Instr.build t (ps.toArray.map fun (p:Nat×Operand)=>(p.1,Af e p.2))) (fun _ _ _ _=>rfl) fun ρ' σ _=>by
  have hps:(ps.toArray.map fun (p:Nat×Operand)=>(p.1,Af e p.2))=vs.toArray:=by rw[←hp];simp
  rw[hps]
  unfold Instr.build
  show wpS P ρ' ((zeroValue t).bind _) σ _
  rw[Ad]
  refine Jz hz ?_
  show wpS P ρ' ((underlying t).bind _) σ _
  rw[Ad]
  refine Az hT ?_
  dsimp only
  show wpS P ρ' (Sem.bind _ _) σ _
  rw[Ad,Atu,Bgm]
  refine Ux fs ns #[] hn ?_
  have a:(fun (x:Nat)=>(#[]++(Gs fs ns).toArray)[x]?)=fun (x:Nat)=>(Gs fs ns)[x]?:=by funext x;simp
  simp only[a,hzc,hf]
  exact⟨rfl,rfl⟩
def EvB(e:Env):List (Nat×Operand)→List (Nat×Value)→Prop
 | [],[]=>True
 | p::ps,q::qs=>(p.1=q.1∧Af e p.2=q.2)∧EvB e ps qs
 | _,_=>False
theorem EvB.map{e:Env}:∀{ps:List (Nat×Operand)} {qs:List (Nat×Value)},EvB e ps qs→ps.map (fun p=>(p.1,Af e p.2))=qs
 | [],[],_=>rfl
 | p::ps,q::qs,h=>by
  rw[Oa,EvB.map h.2,h.1.1,h.1.2]
 | [],_::_,h=>h.elim
 | _::_,[],h=>h.elim
theorem Val.single_l{α:Type}[Dat α]{ρ:Ro}{v:Value}{xs:List α}(h:Val ρ v xs):single v=true:=by
 obtain⟨a,len,cap,b,_⟩:=Cs.1 h
 rw[b];rfl
theorem Val.cells_l{α:Type}[Dat α]{ρ:Ro}{v:Value}{xs:List α}(h:Val ρ v xs):v.cells=[v].toArray:=Qm h.single_l
theorem Grow.single{α:Type}[Dat α]{ρ:Ro}{el:TypeId}{v:Value}{xs:List α}{gr:Own}(h:Grow ρ el v xs gr):single v=true:=by
 rcases h.2.2 with⟨a,_⟩|⟨r,cap,cs,rs,gb,a,_⟩<;>rw[a]<;>rfl
theorem Cb{r off off0 off' i:Nat}{fs:Array Field}{f:Field}{n':Nat}(hT:P.underlying t=some (.struct fs))(hi:fs[i]?=some f)(ho:f.offset=off0)(hF:∃i,P.info? f.type=some i∧i.size=n')(hk:n'≠0)(hx:Af e x = .pointer (some ⟨r,off,none⟩))(ho':off+off0=off') :
  Yld P ρ e (.fieldAddr t x i) ty (.pointer (some ⟨r,off',none⟩)):=Ajt hT hi ho hF hk hx ho'
theorem Ce{r off off0 off' i:Nat}{fs:Array Field}{f:Field}{n':Nat}{j:TypeInfo}(hT:P.underlying t=some (.struct fs))(hi:fs[i]?=some f)(hF:P.info? f.type=some j)(hs:j.size=n':=by exact rfl)(ho:f.offset=off0:=by exact rfl)(hk:n'≠0:=by decide)(hx:Af e x = .pointer (some ⟨r,off,none⟩):=by exact rfl)(ho':off+off0=off':=by exact rfl):Yld P ρ e (.fieldAddr t x i) ty (.pointer (some ⟨r,off',none⟩)):=Cb hT hi ho ⟨_,hF,hs⟩ hk hx ho'
theorem Cq{r off off' len k':Nat}{el:TypeId}{k:IntKind}{q:Int}(i:Nat)(hT:P.underlying t=some (.array len el))(hE:∃i,P.info? el=some i∧i.size=k')(hx:Af e x = .pointer (some ⟨r,off,none⟩))(hy:Af e y = .int k q)(hq:q=(i:Int))(hi:i<len)(ho:off+i*k'=off') :
  Yld P ρ e (.indexAddr t x y) ty (.pointer (some ⟨r,off',none⟩)):=Aju i hT hE hx hy hq hi ho
theorem Afy{r off off' len cap k':Nat}{el:TypeId}{k:IntKind}{q:Int}(i:Nat)(hT:P.underlying t=some (.slice el))(hE:∃i,P.info? el=some i∧i.size=k')(hx:Af e x = .slice (some ⟨r,off,none⟩) len cap)(hy:Af e y = .int k q)(hq:q=(i:Int))(hi:i<len)(ho:off+i*k'=off') :
  Yld P ρ e (.indexAddr t x y) ty (.pointer (some ⟨r,off',none⟩)):=Ajv i hT hE hx hy hq hi ho
def Apk:List Value→Prop
 | []=>True
 | v::vs=>single v=true∧Apk vs
theorem Zh:∀{vs:List Value},Apk vs→∀w∈vs,single w=true
 | [],_,w,h=>by cases h
 | v::vs,hs,w,h=>by
  rcases Gw.1 h with rfl|h
  ·exact hs.1
  ·exact Zh hs.2 w h
theorem Acn{a:Option Addr}{n cap:Nat}{el:TypeId}(hT:P.underlying t=some (.slice el))(hx:Af e x = .slice a n cap):Yld P ρ e (.call ⟨.builtin .len,#[x],#[t]⟩) ty (.int .i64 (n:Int)):=by
 refine Mc (args:=[x]) (vs:=[.slice a n cap]) (s:=fun _=>Builtin.len_ #[t] ty #[.slice a n cap]) (by simp[hx]) (fun cs=>rfl) ?_
 intro ρ' σ' cs _
 show wpS P ρ' ((underlying t).bind _) σ' _
 rw[Ad]
 refine Az hT ?_
 exact⟨rfl,rfl⟩
end
section
variable{P:Program}{b:FB}{n:Nat}{l₀ rest:List Oper}{Q:Env→List Deferred→Ro→Own→Prop}{e:Env}{ds:List Deferred}{ρ:Ro}{σ:Own}
variable{d:Nat}{ty t:TypeId}{pos:String}{af:Array Edge}{g:Option (Nat×Bool)}{x:Operand}{v z:Value}
end
end
section
open Go
section
variable{C:Ctx}{e:Env}{ds:List Deferred}{ρ:Ro}{σ:Own}{K:Value→List Deferred→Ro→Own→Prop}{rd:Option Nat}{dd:Option Tmp}
variable{ty:TypeId}{pos:String}{af:Array Edge}{g:Option (Nat×Bool)}{x y u:Operand}{v p:Value}{t t':TypeId}{P:Program}
/-- The fields are numbers,one cell each: these here,and those there. -/
def EqF(P:Program)(xs ys:Array Value):List Field→List Int→List Int→Prop
 | [],[],[]=>True
 | f::fs,p::ps,q::qs=>((f.name ≠ "_")∧∃k,P.underlying f.type=some (.int k)∧xs[f.offset]?=some (.int k p)∧ys[f.offset]?=some (.int k q))∧EqF P xs ys fs ps qs
 | _,_,_=>False
theorem Qr{cs:Array Value}{off:Nat}{Q:Value→Own→Prop}(hT:∃d,P.underlying t=some d∧Qv d=false)(hc:cs[off]?=some v)(h:Q v σ):wpS P ρ (part t cs off) σ Q:=by
 show wpS P ρ ((isAgg t).bind _) σ Q
 rw[Ad]
 refine Hi hT ?_
 simp only[hc]
 exact h
theorem Afv{k:IntKind}{a b:Int}{d:Nat}{Q:Bool→Own→Prop}(hT:P.underlying t=some (.int k))(h:Q (a==b) σ):wpS P ρ (Op.equalIn (d+1) t (.int k a) (.int k b)) σ Q:=by
 show wpS P ρ ((underlying t).bind _) σ Q
 rw[Ad]
 refine Az hT ?_
 simp only[if_true]
 exact h
theorem Uv{xs ys:Array Value}{d:Nat}{K:(Option Bool×Unit)→Own→Prop}:∀(fs:List Field) (ps qs:List Int),EqF P xs ys fs ps qs→K (if ps=qs then none else some false,()) σ →
    wpS P ρ (forIn fs ((none, ()) : Option Bool×Unit) fun (f : Field) (__s : Option Bool×Unit) =>
            if f.name ≠ "_" then do
              let __do_lift ←part f.type xs f.offset
              let __do_lift_1 ←part f.type ys f.offset
              let __do_lift ←Op.equalIn (d+1) f.type __do_lift __do_lift_1
              if (!__do_lift)=true then pure (ForInStep.done (some false,())) else pure (ForInStep.yield (none,()))
            else pure (ForInStep.yield (none,()))) σ K
  | [],[],[],_,h=>h
  | f::fs,p::ps,q::qs,⟨⟨hn,k,hT,hx,hy⟩,hr⟩,h=>by
    rw[List.forIn_cons]
    show wpS P ρ (Sem.bind _ _) σ K
    rw[Ad,if_pos hn]
    show wpS P ρ ((part f.type xs f.offset).bind _) σ _
    rw[Ad]
    refine Qr ⟨_,hT,rfl⟩ hx ?_
    show wpS P ρ ((part f.type ys f.offset).bind _) σ _
    rw[Ad]
    refine Qr ⟨_,hT,rfl⟩ hy ?_
    show wpS P ρ ((Op.equalIn (d+1) f.type (.int k p) (.int k q)).bind _) σ _
    rw[Ad]
    refine Afv hT ?_
    cases hpq:(p==q) with
    | false =>
      have hne:¬(p::ps=q::qs):=fun h=>by injection h with h1;subst h1;simp at hpq
      rw[if_neg hne]at h
      exact h
    | true =>
      have he:p=q:=eq_of_beq hpq
      refine Uv fs ps qs hr ?_
      have:(p::ps=q::qs)↔ps=qs:=by subst he;simp
      simp only[this]at h
      exact h
  | [],[],_::_,h,_=>h.elim
  | [],_::_,_,h,_=>h.elim
  | _::_,[],_,h,_=>h.elim
  | _::_,_::_,[],h,_=>h.elim
theorem Ms{fs:List Field}{xs ys:Array Value}{ps qs:List Int}{d:Nat}{Q:Bool→Own→Prop}(hT:P.underlying t=some (.struct fs.toArray))(hs:P.stoodInHeld t=false)(hf:EqF P xs ys fs ps qs)(h:Q (decide (ps=qs)) σ) :
  wpS P ρ (Op.equalIn (d+2) t (.agg xs) (.agg ys)) σ Q:=by
 show wpS P ρ ((underlying t).bind _) σ Q
 rw[Ad]
 refine Az hT ?_
 show wpS P ρ (Sem.bind program _) σ Q
 rw[Ad]
 show wpS P ρ (if P.stoodInHeld t then _ else _) σ Q
 rw[if_neg (by simp[hs])]
 simp only[Bgq]
 show wpS P ρ (Sem.bind _ _) σ Q
 rw[Ad]
 refine Uv fs ps qs hf ?_
 by_cases he:ps=qs
 ·rw[if_pos he];rw[Hx he]at h;exact h
 ·rw[if_neg he];rw[Hn he]at h;exact h
/-- Structs of numbers are compared. -/
theorem Aci{fs:List Field}{xs ys:Array Value}{ps qs:List Int}(hT:P.underlying t=some (.struct fs.toArray))(hs:P.stoodInHeld t=false)(hg:P.eqGuardType P.depth t=false)(hx:Af e x = .agg xs)(hy:Af e y = .agg ys)(hf:EqF P xs ys fs ps qs) :
  Yld P ρ e (.binOp .neq t x y t') ty (.bool (!decide (ps=qs))) :=
 Mt (s:=(do eqGuard .neq t x y (Af e x) (Af e y);binOp .neq t (Af e x) (Af e y))) (fun _ _ _ _=>rfl) fun ρ' σ _=>by
  rw[hx,hy]
  show wpS P ρ' (Sem.bind (eqGuard .neq t x y (.agg xs) (.agg ys)) _) σ _
  rw[Ad]
  show wpS P ρ' (if (!P.eqGuardType P.depth t)=true then _ else _) σ _
  rw[if_pos (by simp[hg])]
  show wpS P ρ' ((Op.equal t (.agg xs) (.agg ys)).bind _) σ _
  rw[Ad]
  exact Ms (d:=9998) hT hs hf ⟨rfl,rfl⟩
theorem Acg{fs:List Field}{xs ys:Array Value}{ps qs:List Int}(hT:P.underlying t=some (.struct fs.toArray))(hs:P.stoodInHeld t=false)(hg:P.eqGuardType P.depth t=false)(hx:Af e x = .agg xs)(hy:Af e y = .agg ys)(hf:EqF P xs ys fs ps qs) :
  Yld P ρ e (.binOp .eql t x y t') ty (.bool (decide (ps=qs))) :=
 Mt (s:=(do eqGuard .eql t x y (Af e x) (Af e y);binOp .eql t (Af e x) (Af e y))) (fun _ _ _ _=>rfl) fun ρ' σ _=>by
  rw[hx,hy]
  show wpS P ρ' (Sem.bind (eqGuard .eql t x y (.agg xs) (.agg ys)) _) σ _
  rw[Ad]
  show wpS P ρ' (if (!P.eqGuardType P.depth t)=true then _ else _) σ _
  rw[if_pos (by simp[hg])]
  show wpS P ρ' ((Op.equal t (.agg xs) (.agg ys)).bind _) σ _
  rw[Ad]
  exact Ms (d:=9998) hT hs hf ⟨rfl,rfl⟩
def Ahx:Value→Nat
 | .slice (some a) _ _=>a.block
 | _=>0
theorem Nw{α:Type}[Dat α]{xs:List α}{gr:Own}{el el' off':Nat}{k:IntKind}{q:Int}(i:Nat)(hT:P.underlying t=some (.slice el'))(hE:∃i,P.info? el'=some i∧i.size=Dat.k α)(hx:Af e x=v)(hv:Grow ρ el v xs gr)(hy:Af e y = .int k q)(hq:q=(i:Int))(hi:i<xs.length)(ho:i*Dat.k α=off') :
  Yld P ρ e (.indexAddr t x y) ty (.pointer (some ⟨Ahx v,off',none⟩)):=by
 rcases hv.2.2 with⟨_,b⟩|⟨r,cap,cs,rs,gb,a,_⟩
 ·rw[b]at hi;simp at hi
 ·subst a
  exact Afy i hT hE hx hy hq hi (by omega)
theorem Avo{α:Type}[Dat α]{xs:List α}{a:α}{gr:Own}{el:TypeId}{w:Value}{off i:Nat}(hE:∃i,C.P.info? t=some i∧i.size=Dat.k α)(hx:Af e x = .pointer (some ⟨Ahx v,off,none⟩))(ho:off=i*Dat.k α)(hy:Af e y=w)(hw:Val ρ w a)(hv:Grow ρ el v xs gr)(hi:i<xs.length)
  (h:∀gr',Grow ρ el v (xs.set i a) gr'→K undef ds ρ (gr'++σ)):wpS C.P ρ (execOp (Af e) ⟨dd,.store t x y,ty,pos,af,g⟩) (gr++σ) (NextH C K rd ds ρ):=by
 obtain⟨wc,m,D,G⟩:=hw.cells
 rcases hv.2.2 with⟨_,D⟩|⟨r,cap,cs,rs,gb,E,F,hr,hl,hc⟩
 ·rw[D]at hi;simp at hi
 ·subst E F
  have hwl:=Dat.len m
  have hcl:=hr.len
  have hb:i*Dat.k α+Dat.k α≤xs.length*Dat.k α:=by rw[←Nat.succ_mul];exact Atv _ hi
  obtain⟨ca,cb,cc,b,j,d,l⟩:∃ca cb cc,cs=ca++(cb++cc)∧ca.length=i*Dat.k α∧cb.length=Dat.k α∧Rows ρ (ca++(wc++cc)) (xs.set i a):=by
   clear hv h hx hl hc hb hcl ho
   induction xs generalizing cs i with
   | nil=>simp at hi
   | cons z zs ih =>
    obtain⟨f,n,q,u,B⟩:=hr
    have hz:=Dat.len u
    cases i with
    | zero=>exact⟨[],f,n,by simp[q],by simp,hz,wc,n,rfl,m,B⟩
    | succ i =>
     obtain⟨ca,cb,cc,b,j,d,l⟩:=ih (i:=i) (by simpa using hi) _ B
     refine⟨f++ca,cb,cc,by rw[q,b];simp,by rw[lZ2,hz,j,Yo,Agm,Aub],d,f,ca++(wc++cc),by simp,u,l⟩
  refine Li (i:=0) (off:=off) (vs:=wc) (c:=cs++rs) (c':=(ca++(wc++cc))++rs) hE hx hy G hwl (Dat.sgl m) rfl (by rw[lZ2,hcl,hwl,ho];omega) ?_ ?_
  ·rw[Qe _ _ _ (by rw[lZ2,hcl,hwl,ho];omega),b,ho,←j,hwl,←d]
   rw[lZ9,Aua,←lZ9 ca,←Aug]
   simp[lZ9]
  ·refine h ((r,.obj (.cells ((ca++(wc++cc))++rs).toArray el (0,0)))::gb) ⟨fun p hp=>?_,by rw[Abl];exact hv.2.1,.inr ⟨r,cap,ca++(wc++cc),rs,gb,by rw[Abl],rfl,l,?_,by rw[Abl];exact hc⟩⟩
   ·rcases Gw.1 hp with rfl|hp
    ·exact⟨_,rfl⟩
    ·exact hv.1 p (lZ5 _ hp)
   ·rw[←hl,b];simp[hwl,d]
end
section
variable{C:Ctx}{b:FB}{l₀:List Oper}{Q:Env→List Deferred→Ro→Own→Prop}{ds:List Deferred}{ρ₀ ρ₁:Ro}{pz:List Nat}
end
end
section
open Go
/-- A pointer to data that is only read. -/
structure Ptr(α:Type) where
 v:α
instance{α:Type}[Dat α]:Dat (Ptr α) where
 k:=1
 agg:=false
 rep ρ cs x:=∃p,cs=[p]∧At ρ p x.v
 mono h:=fun⟨p,h1,h2⟩=>⟨p,h1,h2.mono h⟩
 len:=fun⟨p,h1,_⟩=>by rw[h1];rfl
 sgl:=fun⟨p,h1,b,off,_,_,_,_,_,h2,_⟩ c hc=>by rw[h1,Qp]at hc;rw[hc,h2];rfl
 one _:=rfl
theorem Ir{α:Type}[Dat α]{ρ:Ro}{p:Value}{x:α}:Val ρ p (Ptr.mk x)↔At ρ p x :=
 ⟨fun⟨cs,⟨q,a,b⟩,c⟩=>by rw[c,a];exact b,fun h=>⟨[p],⟨p,rfl,h⟩,rfl⟩⟩
/-- Two package-level variables,which nobody writes to. -/
structure Glob(ρ:Ro):Prop where
 over:∃t fz,ρ 2=some (.cells #[.int .i64 0,.int .i64 0] t fz)
 can:∃t fz,ρ 3=some (.cells #[.func (.func 250) #[] #[],.func (.func 227) #[] #[]] t fz)
theorem Glob.mono{ρ ρ':Ro}(h:Ro.le ρ ρ')(hg:Glob ρ):Glob ρ' :=
 ⟨let ⟨t,fz,h1⟩:=hg.over;⟨t,fz,h _ _ h1⟩,let ⟨t,fz,h1⟩:=hg.can;⟨t,fz,h _ _ h1⟩⟩
section
variable{C:Ctx}{e:Env}{ds:List Deferred}{ρ:Ro}{σ:Own}{K:Value→List Deferred→Ro→Own→Prop}{rd:Option Nat}{dd:Option Tmp}
variable{ty:TypeId}{pos:String}{af:Array Edge}{g:Option (Nat×Bool)}{x y u:Operand}{v p:Value}{t t':TypeId}{P:Program}
theorem Ck{a:Addr}(hx:Af e x = .pointer (some a)):Yld P ρ e (.nilCheck x) ty (.pointer (some a)):=fun ρ' σ d pos af g _=>by
 unfold execOp
 simp only[hx]
 exact⟨rfl,rfl⟩
theorem At.ptr{α:Type}[Dat α]{a:α}(h:At ρ p a):∃ad,p = .pointer (some ad):=let ⟨b,off,_,_,_,_,_,h1,_⟩:=h;⟨_,h1⟩
theorem Hj{α:Type}[Dat α]{a:α}(hx:Af e x=p)(h:At ρ p a):Yld P ρ e (.nilCheck x) ty p:=by
 obtain⟨ad,rfl⟩:=h.ptr
 exact Ck hx
theorem Il{fn:Fn}{caps:List Operand}{vs:List Value}(hv:EvL e caps vs):Yld P ρ e (.makeFunc fn #[] caps.toArray) ty (.func fn #[] vs.toArray):=fun ρ' σ d pos af g _=>by
 show wpS P ρ' ((Instr.makeFunc fn ((#[]:Array Operand).map (Af e)) (caps.toArray.map (Af e))).bind fun v=>Sem.pure (Next.value v)) σ _
 have b:(#[]:Array Operand).map (Af e) = #[]:=by simp
 rw[hv.map,b]
 exact⟨rfl,rfl⟩
/-- One cell of a block that is only read. -/
theorem Aae{b off:Nat}{c:Array Value}{fz:Nat×Nat}(hT:∃d,P.underlying t=some d∧Qv d=false)(hx:Af e x = .pointer (some ⟨b,off,none⟩))(hb:ρ b=some (.cells c t' fz))(hc:c[off]?=some v):Yld P ρ e (.load t x) ty v :=
 Mt (s:=Instr.loadAt t (Af e x)) (fun _ _ _ _=>rfl) fun ρ' σ hle=>by
  rw[hx]
  show wpS P ρ' ((isAgg t).bind _) σ _
  rw[Ad]
  refine Hi hT ?_
  exact⟨rfl,rfl,_,v,.inl (hle _ _ hb),by simpa[Gy]using hc,rfl,rfl⟩
/-- A closure,or another function value,that is called. -/
theorem Sq{f:FuncId}{fn:Func}{args:List Operand}{tys:Array TypeId}{vs caps:List Value}{R:Value→Ro→Own→Prop}(hx:Af e x = .func (.func f) #[] caps.toArray)(hc:CallsH C f (vs++caps).toArray ρ σ R)(hf:C.P.funcs[f]?=some fn)(hn:(fn.name == "runtime.NumGoroutine")=false)(hb:fn.body.isNone=false)
  (hv:EvL e args vs) (h:∀v ρ' σ',R v ρ' σ'→K v ds ρ' σ'):wpS C.P ρ (execOp (Af e) ⟨dd,.call ⟨.value x,args.toArray,tys⟩,ty,pos,af,g⟩) σ (NextH C K rd ds ρ):=by
 have hv':=hv.map
 show wpS C.P ρ ((Deferred.ofValue (Af e x) (args.toArray.map (Af e))).bind _) σ _
 rw[hx,hv']
 show wpS C.P ρ (callFunc f ((#[]++vs.toArray)++caps.toArray)) σ _
 have a:((#[]++vs.toArray)++caps.toArray:Array Value)=(vs++caps).toArray:=by simp
 rw[a]
 exact Mr hf hn hb (hc.mono h)
end
theorem Yp{I:List Value→Ro→Own→Prop}{pre pre':List Value}{ρ:Ro}{σ:Own}(h:pre'=pre)(hi:I pre ρ σ):I pre' ρ σ:=by rw[h];exact hi
theorem Fe(A B C:Own):(A++(B++C)).Perm (B++(A++C)):=Bha A B C
theorem Xg{α:Type}{f:α→Value}(hf:∀a b,f a=f b→a=b):∀{l m:List α},l.map f=m.map f→l=m
 | [],[],_=>rfl
 | [],_::_,h=>by cases h
 | _::_,[],h=>by cases h
 | a::l,b::m,h=>by
  simp only[Oa,List.cons.injEq]at h
  rw[hf a b h.1,Xg hf h.2]
theorem Nf{α:Type}{f:α→Value}(hf:∀a b,f a=f b→a=b){l m:List α}(h:l.map f=m.map f):m=l:=(Xg hf h).symm
theorem Ly{α:Type}{f:α→Value}(hf:∀a b,f a=f b→a=b){l l1:List α}{x:Value}{post:List Value}(h:l.map f=l1.map f++x::post):∃a l2,l=l1++a::l2∧x=f a:=by
 obtain⟨k,m,c,d,e⟩:=List.map_eq_append_iff.1 h
 obtain⟨a,l2,g,i,j⟩:=List.map_eq_cons_iff.1 e
 have:=Xg hf d
 subst this
 exact⟨a,l2,by rw[c,g],i.symm⟩
section
variable{C:Ctx}{e:Env}{ds:List Deferred}{ρ:Ro}{σ:Own}{K:Value→List Deferred→Ro→Own→Prop}{rd:Option Nat}{dd:Option Tmp}
variable{ty:TypeId}{pos:String}{af:Array Edge}{g:Option (Nat×Bool)}{x y u:Operand}{v p:Value}{t t':TypeId}{P:Program}
theorem Xt{old new:Value}{Q:Value→Own→Prop}(hw:old=new)(h:Q new σ):wpS P ρ (Instr.keyThatStays old new) σ Q:=by
 subst hw
 unfold Instr.keyThatStays
 split
 ·exact h
 ·show wpS P ρ (Sem.bind (choose _) _) σ Q
  rw[Ad]
  show (if _ then _ else _)
  have key:∀n:Nat,(if n=0 then old else old)=old:=fun n=>by split<;>rfl
  split
  ·simp only[key];exact h
  ·intro t;simp only[key];exact h
end
end
section
open Go Go.WideShapes
/-- What may be read of a world: all its blocks but channels. -/
def roW(W:World):Ro:=fun b=>match W.heap[b]? with
 | some o=>if o.isChan then none else some o
 | none=>none
theorem Anl{W:World}(b:Nat)(o:Obj)(h:roW W b=some o):W.heap[b]?=some o∧o.isChan=false:=by
 unfold roW at h
 cases hb:W.heap[b]? with
 | none=>rw[hb]at h;cases h
 | some o' =>
  rw[hb]at h
  simp only at h
  cases hc:o'.isChan with
  | true=>rw[hc]at h;cases h
  | false=>rw[hc]at h;simp at h;subst h;exact⟨rfl,hc⟩
theorem Vz{W:World}{b t:Nat}{c:Array Value}{fz:Nat×Nat}(h:W.heap[b]?=some (.cells c t fz)):roW W b=some (.cells c t fz):=by
 unfold roW;rw[h];rfl
/-- A type whose readings are data of this kind. -/
def Api(α:Type)[Dat α](t:TypeId):Prop :=
 Tryz.prog.cellsOf t=Dat.k α∧∀(H:Type) (enc:TypeId×Value→H) (W:World) (fuel:Nat) (cs:List Value) (x:DataW H×List MemPlace),
  DataW.trod enc Tryz.prog W 0 (fun _=>true) true fuel t cs=some x→(∀n∈x.1.weights Tryz.prog t,n≤reachBytes)→∃a:α,Dat.rep (roW W) cs a
theorem Auw{n:Nat}(h:n≤reachBytes):n<2^60:=by unfold reachBytes at h;omega
theorem Xb{t:TypeId}(ht:Tryz.prog.underlying t=some (.int .i64))(hc:Tryz.prog.cellsOf t=1):Api Int t :=
 ⟨hc,fun H enc W c cs x h _=>by
  obtain⟨n,a,_,b⟩:=DataW.trod_int ht h
  refine⟨n,a,?_⟩
  simp[Lit.wf,IntKind.min,IntKind.max,IntKind.signed,IntKind.bits]at b
  exact⟨by omega,by omega⟩⟩
theorem Bex{t:TypeId}(ht:Tryz.prog.underlying t=some .bool)(hc:Tryz.prog.cellsOf t=1):Api Bool t :=
 ⟨hc,fun H enc W c cs x h _=>by
  obtain⟨b,a,_⟩:=DataW.trod_bool ht h
  exact⟨b,a⟩⟩
theorem Acz{t:TypeId}(ht:Tryz.prog.underlying t=some .string)(hc:Tryz.prog.cellsOf t=1):Api ByteArray t :=
 ⟨hc,fun H enc W c cs x h hw=>by
  obtain⟨s,a,b,_⟩:=DataW.trod_string ht h
  refine⟨s,a,Auw ?_⟩
  have:=hw s.data.toList.length (by rw[b];simp[DataW.weights])
  simpa using this⟩
theorem Bae{α:Type}{P:Nat→α→Prop}:∀n,(∀i,i<n→∃a,P i a)→∃xs:List α,xs.length=n∧∀i x,xs[i]?=some x→P i x
 | 0,_=>⟨[],rfl,fun i x h=>by cases h⟩
 | n+1,h=>by
  obtain⟨xs,h1,h2⟩:=Bae n fun i hi=>h i (by omega)
  obtain⟨a,ha⟩:=h n (by omega)
  refine⟨xs++[a],by simp[h1],fun i x hx=>?_⟩
  rcases Rd i n with hlt|hge
  ·rw[Ajl (by omega)]at hx;exact h2 i x hx
  ·have hi:i=n:=by
    have:=(lZ8.1 hx).1
    simp only[lZ2,Aqv]at this;omega
   subst hi
   rw[List.getElem?_append_right (by omega),h1,Aoo]at hx
   cases hx;exact ha
theorem Bnq{a:Addr}:a.add 0=a:=by simp[Addr.add]
theorem Ash{b off i:Nat}:(⟨b,off,none⟩:Addr).add i=⟨b,off+i,none⟩:=by
 unfold Addr.add;split
 ·rename_i h;subst h;rfl
 ·rfl
theorem Aoz{W:World}{a:Addr}{k:Nat}{cs:List Value}(hk:1≤k)(h:W.cells? 0 a k=some cs):∃b off c t fz rest,a=⟨b,off,none⟩∧W.heap[b]?=some (.cells c t fz)∧c.toList.drop off=cs++rest∧cs.length=k:=by
 unfold World.cells? at h
 rw[if_pos (Gn _)]at h
 have hl:=mapM_some_length h
 rw[List.length_range]at hl
 have hg:∀j,j<k→W.cell? (a.add j)=cs[j]?:=fun j hj=>mapM_some_get h j j (by rw[Bgn hj])
 obtain⟨b,off,f⟩:=a
 have d:=hg 0 hk
 rw[Bnq]at d
 obtain⟨v,hv⟩:∃v,cs[0]?=some v:=⟨_,Sc (by omega)⟩
 rw[hv]at d
 unfold World.cell? at d
 simp only at d
 cases hb:W.heap[b]? with
 | none=>rw[hb]at d;cases d
 | some o =>
  cases o with
  | cells c t fz =>
   rw[hb]at d
   simp only at d
   cases f with
   | some s=>simp at d
   | none =>
    refine⟨b,off,c,t,fz,(c.toList.drop off).drop k,rfl,hb,?_,hl⟩
    have e:(c.toList.drop off).take k=cs:=by
     apply Aue
     intro j
     rw[Aez]
     by_cases hj:j<k
     ·rw[if_pos hj,←hg j hj,Xy,Ash]
      unfold World.cell?
      simp only[hb]
      simp
     ·rw[if_neg hj,Vy (by omega)]
    rw[←e,Agz]
  | _=>rw[hb]at d;cases d
theorem Za{H:Type}{P:Program}{e:TypeId}:∀{ds:List (DataW H)} {d:DataW H} {n:Nat},d∈ds→n∈d.weights P e→n∈DataW.weightsAll P e ds
 | [],_,_,h,_=>by cases h
 | d'::ds,d,n,h,hn=>by
  rw[DataW.weightsAll,Hs]
  rcases Gw.1 h with rfl|h
  ·exact .inl hn
  ·exact .inr (Za h hn)
theorem Qk{α:Type}[Dat α]{t e:TypeId}(ht:Tryz.prog.underlying t=some (.slice e))(hc:Tryz.prog.cellsOf t=1)(hb:1≤Tryz.prog.bytesOf e)(hk:1≤Dat.k α)(he:Api α e):Api (List α) t :=
 ⟨hc,fun H enc W K cs x h hw=>by
  rcases DataW.trod_slice ht h with⟨u,_⟩|⟨a,len,cap,q,rest,n,_,w,B,_,C,_,D,E,_,_⟩
  ·exact⟨[],_,u,none,0,0,rfl,rfl,by omega,Jd _,fun i x hx=>by cases hx⟩
  ·rw[B]at hw
   simp only[DataW.weights,ht]at hw
   have G:len<2^60:=by
    have:=hw _ mC
    simp only[Xe]at this
    refine Auw (Sz ?_ this)
    rw[D]
    exact Sz (Sz (Nat.le_add_right _ _) (Nat.le_of_eq (Ajj _).symm)) (Nat.mul_le_mul_left _ hb)
   obtain⟨xs,I,p⟩:=Bae (P:=fun i (y:α)=>∃cs,W.cells? 0 (a.add (i*Tryz.prog.cellsOf e)) (Tryz.prog.cellsOf e)=some cs∧Dat.rep (roW W) cs y) len fun i hi=>by
    have d:=E i hi
    obtain⟨y,hy⟩:∃y,q[i]?=some y:=⟨_,Sc (by omega)⟩
    rw[hy,Option.bind_eq_some_iff]at d
    obtain⟨ci,f,g⟩:=d
    obtain⟨z,hz⟩:=he.2 H enc W n ci y g fun m hm=>hw m (lZ5 _ (Sf _ (Za (Yn (Hd hy)) hm)))
    exact⟨z,ci,f,hz⟩
   refine⟨xs,_,w,some a,len,cap,rfl,I,G,C,fun i y hy=>?_⟩
   obtain⟨b',j,rfl⟩:∃b' j,a=⟨b',j,none⟩:=by
    have hi:=(lZ8.1 hy).1
    obtain⟨l,J⟩:∃l,xs[0]?=some l:=⟨_,Sc (by omega)⟩
    obtain⟨ci,f,_⟩:=p 0 l J
    rw[he.1,Bac,Bnq]at f
    obtain⟨b,off,_,_,_,_,d,_⟩:=Aoz hk f
    exact⟨b,off,d⟩
   obtain⟨ci,f,g⟩:=p i y hy
   rw[he.1,Ash]at f
   obtain⟨b,off,c,t',fz,rs,d,F,v,_⟩:=Aoz hk f
   simp only[Addr.mk.injEq,and_true]at d
   obtain⟨rfl,rfl⟩:=d
   exact⟨b',j,rfl,b',_,c,t',fz,ci,rs,rfl,Vz F,g,v⟩⟩
theorem Sm(cs:List Value)(a k:Nat):cs.drop a=(cs.drop a).take k++cs.drop (a+k):=by rw[←Aug,Agz]
theorem Gv{H:Type}{enc:TypeId×Value→H}{W:World}{n:Nat}{cs:List Value}{xs:List (DataW H×List MemPlace)}{fs:Array Field}{t:TypeId}(ht:Tryz.prog.underlying t=some (.struct fs))(hl:xs.length=fs.size)(h:∀(i:Nat) (f:Field),fs[i]?=some f→DataW.trod enc Tryz.prog W 0 (fun _=>true) true n f.type ((cs.drop f.offset).take (Tryz.prog.cellsOf f.type))=xs[i]?)
  (hw:∀m∈(DataW.agg (xs.map (·.1)):DataW H).weights Tryz.prog t,m≤reachBytes) {α:Type} [Dat α] {i ft off:Nat} {f:Field} (hf:fs[i]?=some f) (h1:f.type=ft) (h2:f.offset=off) (hd:Api α ft):∃a:α,Dat.rep (roW W) ((cs.drop off).take (Dat.k α)) a:=by
 subst h1 h2
 have hi:=(Amm.1 hf).1
 obtain⟨y,hy⟩:∃y,xs[i]?=some y:=⟨_,Sc (by omega)⟩
 have b:=h i f hf
 rw[hy,hd.1]at b
 refine hd.2 H enc W n _ y b fun m hm=>hw m ?_
 simp only[DataW.weights,ht]
 exact DataW.weights_mem_each (j:=i) (t:=f.type) (d:=y.1) (by simp[Azp,hf]) (by simp[hy]) m hm
theorem Bns:Api Span 48:=⟨by kernel_rfl,fun H enc W f cs x h hw=>by
 obtain⟨xs,n,_,rfl,hcl,hl,hf⟩:=DataW.trod_struct Buj h
 rw[show Tryz.prog.cellsOf 48=2 from by kernel_rfl]at hcl
 obtain⟨b,d⟩:=Gv (i:=0) Buj hl hf hw rfl rfl (show _=0 from rfl) (Xb Bty (by kernel_rfl))
 obtain⟨a,e⟩:=Gv (i:=1) Buj hl hf hw rfl rfl (show _=1 from rfl) (Xb Bty (by kernel_rfl))
 refine⟨⟨b,a⟩,?_⟩
 have c:cs=cs.drop 0:=rfl
 rw[c]
 exact⟨(cs.drop 0).take 1,cs.drop 1,(Sm cs 0 1).trans (by rfl),d,(show Dat.rep (roW W) (cs.drop 1) a from by (have:=e;rw[Ym (by rw[lZ4,hcl];decide)]at this;exact this))⟩⟩
theorem Bry:Api FField 51:=⟨by kernel_rfl,fun H enc W l cs x h hw=>by
 obtain⟨xs,n,_,rfl,hcl,hl,hf⟩:=DataW.trod_struct Btx h
 rw[show Tryz.prog.cellsOf 51=5 from by kernel_rfl]at hcl
 obtain⟨b,f⟩:=Gv (i:=0) Btx hl hf hw rfl rfl (show _=0 from rfl) (Acz Btr (by kernel_rfl))
 obtain⟨c,g⟩:=Gv (i:=1) Btx hl hf hw rfl rfl (show _=1 from rfl) (Xb Bty (by kernel_rfl))
 obtain⟨d,j⟩:=Gv (i:=2) Btx hl hf hw rfl rfl (show _=2 from rfl) Bns
 obtain⟨a,k⟩:=Gv (i:=3) Btx hl hf hw rfl rfl (show _=4 from rfl) (Qk Bug (by kernel_rfl) (Pj (by kernel_rfl)) (by decide) Bns)
 refine⟨⟨b,c,d,a⟩,?_⟩
 have e:cs=cs.drop 0:=rfl
 rw[e]
 exact⟨(cs.drop 0).take 1,cs.drop 1,(Sm cs 0 1).trans (by rfl),f,⟨(cs.drop 1).take 1,cs.drop 2,(Sm cs 1 1).trans (by rfl),g,⟨(cs.drop 2).take 2,cs.drop 4,(Sm cs 2 2).trans (by rfl),j,(show Dat.rep (roW W) (cs.drop 4) a from by (have:=k;rw[Ym (by rw[lZ4,hcl];decide)]at this;exact this))⟩⟩⟩⟩
theorem Brx:Api Sale 54:=⟨by kernel_rfl,fun H enc W f cs x h hw=>by
 obtain⟨xs,n,_,rfl,hcl,hl,hf⟩:=DataW.trod_struct Buh h
 rw[show Tryz.prog.cellsOf 54=2 from by kernel_rfl]at hcl
 obtain⟨b,d⟩:=Gv (i:=0) Buh hl hf hw rfl rfl (show _=0 from rfl) (Xb Bty (by kernel_rfl))
 obtain⟨a,e⟩:=Gv (i:=1) Buh hl hf hw rfl rfl (show _=1 from rfl) (Qk Buk (by kernel_rfl) (Pj (by kernel_rfl)) (by decide) (Xb Bty (by kernel_rfl)))
 refine⟨⟨b,a⟩,?_⟩
 have c:cs=cs.drop 0:=rfl
 rw[c]
 exact⟨(cs.drop 0).take 1,cs.drop 1,(Sm cs 0 1).trans (by rfl),d,(show Dat.rep (roW W) (cs.drop 1) a from by (have:=e;rw[Ym (by rw[lZ4,hcl];decide)]at this;exact this))⟩⟩
theorem Brv:Api Market 29:=⟨by kernel_rfl,fun H enc W l cs x h hw=>by
 obtain⟨xs,n,_,rfl,hcl,hl,hf⟩:=DataW.trod_struct Btt h
 rw[show Tryz.prog.cellsOf 29=4 from by kernel_rfl]at hcl
 obtain⟨b,f⟩:=Gv (i:=0) Btt hl hf hw rfl rfl (show _=0 from rfl) (Qk Bts (by kernel_rfl) (Pj (by kernel_rfl)) (by decide) (Acz Btr (by kernel_rfl)))
 obtain⟨c,g⟩:=Gv (i:=1) Btt hl hf hw rfl rfl (show _=1 from rfl) (Qk Bts (by kernel_rfl) (Pj (by kernel_rfl)) (by decide) (Acz Btr (by kernel_rfl)))
 obtain⟨d,j⟩:=Gv (i:=2) Btt hl hf hw rfl rfl (show _=2 from rfl) (Qk Bue (by kernel_rfl) (Pj (by kernel_rfl)) (by decide) Bry)
 obtain⟨a,k⟩:=Gv (i:=3) Btt hl hf hw rfl rfl (show _=3 from rfl) (Qk Buf (by kernel_rfl) (Pj (by kernel_rfl)) (by decide) Brx)
 refine⟨⟨b,c,d,a⟩,?_⟩
 have e:cs=cs.drop 0:=rfl
 rw[e]
 exact⟨(cs.drop 0).take 1,cs.drop 1,(Sm cs 0 1).trans (by rfl),f,⟨(cs.drop 1).take 1,cs.drop 2,(Sm cs 1 1).trans (by rfl),g,⟨(cs.drop 2).take 1,cs.drop 3,(Sm cs 2 1).trans (by rfl),j,(show Dat.rep (roW W) (cs.drop 3) a from by (have:=k;rw[Ym (by rw[lZ4,hcl];decide)]at this;exact this))⟩⟩⟩⟩
theorem Bpf:Api FTest 46:=⟨by kernel_rfl,fun H enc W j cs x h hw=>by
 obtain⟨xs,n,_,rfl,hcl,hl,hf⟩:=DataW.trod_struct Bub h
 rw[show Tryz.prog.cellsOf 46=3 from by kernel_rfl]at hcl
 obtain⟨b,e⟩:=Gv (i:=0) Bub hl hf hw rfl rfl (show _=0 from rfl) (Acz Btr (by kernel_rfl))
 obtain⟨c,f⟩:=Gv (i:=1) Bub hl hf hw rfl rfl (show _=1 from rfl) (Qk Bui (by kernel_rfl) (Pj (by kernel_rfl)) (by decide) (Xb Tryz.underlying75 (by kernel_rfl)))
 obtain⟨a,g⟩:=Gv (i:=2) Bub hl hf hw rfl rfl (show _=2 from rfl) (Bex Bvm (by kernel_rfl))
 refine⟨⟨b,c,a⟩,?_⟩
 have d:cs=cs.drop 0:=rfl
 rw[d]
 exact⟨(cs.drop 0).take 1,cs.drop 1,(Sm cs 0 1).trans (by rfl),e,⟨(cs.drop 1).take 1,cs.drop 2,(Sm cs 1 1).trans (by rfl),f,(show Dat.rep (roW W) (cs.drop 2) a from by (have:=g;rw[Ym (by rw[lZ4,hcl];decide)]at this;exact this))⟩⟩⟩
theorem Brw:Api Lab 25:=⟨by kernel_rfl,fun H enc W j cs x h hw=>by
 obtain⟨xs,n,_,rfl,hcl,hl,hf⟩:=DataW.trod_struct Btv h
 rw[show Tryz.prog.cellsOf 25=3 from by kernel_rfl]at hcl
 obtain⟨b,e⟩:=Gv (i:=0) Btv hl hf hw rfl rfl (show _=0 from rfl) (Qk Bts (by kernel_rfl) (Pj (by kernel_rfl)) (by decide) (Acz Btr (by kernel_rfl)))
 obtain⟨c,f⟩:=Gv (i:=1) Btv hl hf hw rfl rfl (show _=1 from rfl) (Xb Bty (by kernel_rfl))
 obtain⟨a,g⟩:=Gv (i:=2) Btv hl hf hw rfl rfl (show _=2 from rfl) (Qk Bua (by kernel_rfl) (Pj (by kernel_rfl)) (by decide) Bpf)
 refine⟨⟨b,c,a⟩,?_⟩
 have d:cs=cs.drop 0:=rfl
 rw[d]
 exact⟨(cs.drop 0).take 1,cs.drop 1,(Sm cs 0 1).trans (by rfl),e,⟨(cs.drop 1).take 1,cs.drop 2,(Sm cs 1 1).trans (by rfl),f,(show Dat.rep (roW W) (cs.drop 2) a from by (have:=g;rw[Ym (by rw[lZ4,hcl];decide)]at this;exact this))⟩⟩⟩
end
section
open Go Go.RowKit Go.Conc
/-- A function's body,walked from what it is given. -/
def Agd(C:Ctx)(f:FuncId)(r:Nat)(args:List Value)(ρ:Ro)(σ:Own)(R:Value→Ro→Own→Prop):Prop :=
 ∃fn c,C.P.funcs[f]?=some fn∧fn.body=some c∧fn.results = #[.tmp r]∧args.length≤fn.ntmps ∧
  ∀Q:Hu,(∀e ρ' σ',R (e r) ρ' σ'→Q .ret e [] ρ' σ')→(∀e ρ' σ',R (e r) ρ' σ'→Q .normal e [] ρ' σ')→WpC C ⟨f,.normal,none⟩ fn.ntmps c Q (Pn args) [] ρ σ
theorem Bjz{C:Ctx}{f:FuncId}{fn:Func}{c:Code}{n r:Nat}{args:List Value}{ρ:Ro}{σ:Own}{R:Value→Ro→Own→Prop}(hf:C.P.funcs[f]?=some fn)(hc:fn.body=some c)(hn:fn.ntmps=n)(ha:Nat.ble args.length n=true)(hr:fn.results = #[.tmp r])
  (h:∀Q:Hu,(∀e ρ' σ',R (e r) ρ' σ'→Q .ret e [] ρ' σ')→(∀e ρ' σ',R (e r) ρ' σ'→Q .normal e [] ρ' σ')→WpC C ⟨f,.normal,none⟩ n c Q (Pn args) [] ρ σ):Agd C f r args ρ σ R :=
 ⟨fn,c,hf,hc,hr,hn ▸ Pj ha,hn ▸ h⟩
end
section
open Go Go.WideShapes Go.ChangeShapes Go.RowKit Go.Conc
section
variable{H:Type}{enc:TypeId×Value→H}{W:World}{r:Reach}{base t:Nat}{v:Value}{d:DataW H}{p:List MemPlace}
theorem Ahu{α:Type}[Dat α]{fs:Array Field}(hd:Api α t)(ha:Dat.agg α=true)(ht:Tryz.prog.underlying t=some (.struct fs))(hv:Value.okWide Tryz.prog W r base t v)(h:DataW.Trod enc Tryz.prog W 0 (fun _=>true) true t v d p)(hw:∀n∈d.weights Tryz.prog t,n≤reachBytes):∃a:α,Val (roW W) v a:=by
 obtain⟨cs,rfl,_⟩:=okWide_struct ht hv
 obtain⟨b,hf⟩:=h
 obtain⟨a,c⟩:=hd.2 H enc W b cs.toList (d,p) hf hw
 refine⟨a,_,c,?_⟩
 rw[ha]
 show _=Value.agg cs.toList.toArray
 simp
end
theorem Aln{H:Type}{P:Program}{ts:List TypeId}{ds:List (DataW H)}(h:(DataW.weightsEach P ts ds).all (·≤reachBytes)=true){j:Nat}{t:TypeId}{d:DataW H}(ht:ts[j]?=some t)(hd:ds[j]?=some d):∀n∈d.weights P t,n≤reachBytes:=fun n hn=>by
 have:=Rh.1 h _ (DataW.weights_mem_each ht hd n hn)
 simpa using this
def Bnw:List (String×DataW Unit):=[("crocus/fake.can",Rows.laid_crocus_fake_can),("crocus/fake.over",Rows.laid_crocus_fake_over)]
theorem Zw{P:Program}{W:World}{n:String}{g:Nat}{cs:Array Value}(hg:P.globalNamed n=some g)(h:W.var? P n=some cs):∃t fz,W.heap[g]?=some (.cells cs t fz):=by
 simp only[World.var?,hg,Bgx]at h
 split at h
 ·rename_i cs' t fz hh
  cases h
  exact⟨t,fz,hh⟩
 ·cases h
theorem gOver:Tryz.prog.globalNamed "crocus/fake.over" = some 2:=by kernel_rfl
theorem gCan:Tryz.prog.globalNamed "crocus/fake.can" = some 3:=by kernel_rfl
theorem tOver:(Tryz.prog.globals[2]?).map (·.type)=some 134:=by kernel_rfl
theorem tCan:(Tryz.prog.globals[3]?).map (·.type)=some 199:=by kernel_rfl
theorem Xc{W:World}(h:laidMetH Tryz.prog Bnw W):Glob (roW W):=by
 have h':laidMet Tryz.prog [("crocus/fake.over",Rows.laid_crocus_fake_over)] W∧handlesMet Tryz.prog [("crocus/fake.can",Rows.laid_crocus_fake_can)] W:=h
 refine⟨?_,?_⟩
 ·obtain⟨ps,⟨g,t,cs,x,p,q,hg,ht,hv,hd,_,_⟩,_,_⟩:=h'.1
  obtain rfl:=Option.some.inj (gOver.symm.trans hg)
  obtain rfl:=Option.some.inj (tOver.symm.trans ht)
  obtain⟨t',fz,hh⟩:=Zw hg hv
  obtain⟨xs,n,_,j,hcl,hl,hf⟩:=DataW.trod_struct Tryz.underlying134 hd
  have c:xs.map (·.1)=[.lit (.int .i64 0),.lit (.int .i64 0)]:=by
   have:=congrArg Prod.fst j
   simp only[Rows.laid_crocus_fake_over,DataW.agg.injEq]at this
   exact this.symm
  rw[show Tryz.prog.cellsOf 134=2 from by kernel_rfl]at hcl
  obtain⟨a,b,hab⟩:∃a b,cs.toList=[a,b]:=by
   match hm:cs.toList,hcl with
   | [a,b],_=>exact⟨a,b,rfl⟩
  have f0:DataW.trod (fun _=>()) Tryz.prog W 0 (fun _=>true) false n 124 ((cs.toList.drop 0).take (Tryz.prog.cellsOf 124))=xs[0]?:=hf 0 _ rfl
  have e:DataW.trod (fun _=>()) Tryz.prog W 0 (fun _=>true) false n 3 ((cs.toList.drop 1).take (Tryz.prog.cellsOf 3))=xs[1]?:=hf 1 _ rfl
  obtain⟨f,i,hx⟩:∃f i,xs=[f,i]:=by
   have:xs.length=2:=hl
   match hm:xs,this with
   | [a,b],_=>exact⟨a,b,rfl⟩
  subst hx
  rw[hab]at f0 e
  rw[show Tryz.prog.cellsOf 124=1 from by kernel_rfl]at f0
  rw[show Tryz.prog.cellsOf 3=1 from by kernel_rfl]at e
  simp only[Aes,Adm,Afb,Bcp,List.take_succ_cons,Ajh]at f0 e
  obtain⟨z,k,u,_⟩:=DataW.trod_int Tryz.underlying124 f0
  obtain⟨B,l,v,_⟩:=DataW.trod_int Bty e
  subst u v
  simp only[Oa,List.map_nil,List.cons.injEq,DataW.lit.injEq,Lit.int.injEq,true_and,and_true]at c
  obtain⟨rfl,rfl⟩:=c
  simp only[List.cons.injEq,and_true]at k l
  subst k l
  have hcs:cs = #[.int .i64 0,.int .i64 0]:=by apply Array.ext';exact hab
  rw[hcs]at hh
  exact⟨t',fz,Vz hh⟩
 ·obtain⟨g,t,cs,x,p,hg,ht,hv,hd⟩:=h.funcs (n:= "crocus/fake.can") (d:=.agg [.iface "func" (.lit (.string [40,99,114,111,99,117,115,47,102,97,107,101,46,112,114,111,98,101,41,46,109,105,115,115,101,115])),.iface "func" (.lit (.string [40,99,114,111,99,117,115,47,102,97,107,101,46,112,114,111,98,101,41,46,102,105,110,100,115]))]) mC
  obtain rfl:=Option.some.inj (gCan.symm.trans hg)
  obtain rfl:=Option.some.inj (tCan.symm.trans ht)
  obtain⟨t',fz,hh⟩:=Zw hg hv
  obtain⟨xs,m,_,j,hcl,hl,hf⟩:=DataW.trod_array Tryz.underlying199 hd
  have c:xs.map (·.1)=[.held [40,99,114,111,99,117,115,47,102,97,107,101,46,112,114,111,98,101,41,46,109,105,115,115,101,115],.held [40,99,114,111,99,117,115,47,102,97,107,101,46,112,114,111,98,101,41,46,102,105,110,100,115]]:=by
   have:=congrArg Prod.fst j
   simp only[DataW.funcsOut,DataW.funcsOutAll]at this
   have y:=(DataW.agg.inj this).symm
   simpa using y
  rw[show Tryz.prog.cellsOf 199=2 from by kernel_rfl]at hcl
  obtain⟨a,b,hab⟩:∃a b,cs.toList=[a,b]:=by
   match hm:cs.toList,hcl with
   | [a,b],_=>exact⟨a,b,rfl⟩
  have f0:=hf 0 (by decide)
  have e:=hf 1 (by decide)
  obtain⟨f,i,hx⟩:∃f i,xs=[f,i]:=by
   match hm:xs,hl with
   | [a,b],_=>exact⟨a,b,rfl⟩
  subst hx
  rw[hab,show Tryz.prog.cellsOf 198=1 from by kernel_rfl]at f0 e
  simp only[Bac,Agm,Aes,Adm,Afb,Bcp,List.take_succ_cons,Ajh]at f0 e
  simp only[Oa,List.map_nil,List.cons.injEq,and_true]at c
  obtain⟨u,C⟩:=f
  obtain⟨v,D⟩:=i
  obtain⟨w,c⟩:=c
  simp only at w c
  subst w c
  obtain rfl:=func_of_trod (f0:=250) Tryz.underlying198 (by kernel_rfl) f0
  obtain rfl:=func_of_trod (f0:=227) Tryz.underlying198 (by kernel_rfl) e
  have hcs:cs = #[.func (.func 250) #[] #[],.func (.func 227) #[] #[]]:=by apply Array.ext';exact hab
  rw[hcs]at hh
  exact⟨t',fz,Vz hh⟩
end
section
open Go Go.WideShapes Go.ChangeShapes Go.RowKit Go.Conc
theorem Art:ownKnob Tryz.prog.godebug=none:=by kernel_rfl
theorem Aid:laidOutB Tryz.prog=true:=by kernel_rfl
theorem Sb{H:Type}{enc:TypeId×Value→H}{P:Program}{w:World}{base:Nat}{spare:Nat→Bool}{held:Bool}:∀{ts:List TypeId} {vs:List Value} {ds:List (DataW H)} {ps:List MemPlace},DataW.TrodAll enc P w base spare held ts vs ds ps→vs.length=ts.length∧ds.length=ts.length
 | [],[],[],_,_=>⟨rfl,rfl⟩
 | t::ts,v::vs,d::ds,_,⟨p,q,_,h,_⟩=>by have:=Sb h;simp[this]
 | [],[],_::_,_,h=>h.elim
 | [],_::_,_,_,h=>h.elim
 | _::_,[],_,_,h=>h.elim
 | _::_,_::_,[],_,h=>h.elim
theorem Oo{H:Type}{enc:TypeId×Value→H}{W W':World}(hb:Below W.heap.size W W'):∀{ts:List TypeId} {vs:List Value} {ds:List (DataW H)} {ps:List MemPlace},(∀t∈ts,Tryz.prog.readableRec t=true∧t<Tryz.prog.types.size)→(∀x∈ps,x.block<W.heap.size) →
  DataW.TrodAll enc Tryz.prog W 0 (fun _=>true) true ts vs ds ps→DataW.TrodAll enc Tryz.prog W' 0 (fun b=>decide (b<W.heap.size)) true ts vs ds ps
 | [],[],[],_,_,_,h=>h
 | t::ts,v::vs,d::ds,_,ht,hl,⟨p,q,h1,h2,he⟩=>⟨p,q,Below.trod Aid (ht t mC).1 (ht t mC).2 h1 hb fun x hx=>hl x (he ▸ Sf _ hx),Oo hb (fun t h=>ht t (lZ5 _ h)) (fun x hx=>hl x (he ▸ Po _ hx)) h2,he⟩
 | [],[],_::_,_,_,_,h=>h.elim
 | [],_::_,_,_,_,_,h=>h.elim
 | _::_,[],_,_,_,_,h=>h.elim
 | _::_,_::_,[],_,_,_,h=>h.elim
/-- A tied card without a companion,of a function that starts goroutines. -/
theorem Bdp(Lk:Looks){p:Pinned}{s:OpenSpec}{c:OpenClaim}(kinds:List LaidKind)(tests:Bool)(har:Bool×String)(lk:Bool)
  (hc:c.holds p s) (hw:c.wfByText s=true) (htie:c.laidByTextAt Lk p kinds tests)
  (hst:c.start = .entering) (hnb:c.noBlocks=false∧c.again=false) (hm:p.checked.prog.mainIs=some (har.1,har.2.toList)) (hn:(!har.1&&har.2.isEmpty && !lk)=false)
  (hl:∀f fn,p.checked.prog.funcNamed c.func=some f→p.checked.prog.funcs[f]?=some fn→lk=p.checked.prog.looks []∧∀(j:Nat) t,fn.params[j]?=some t→p.checked.prog.wantsStandIn t=false)
  (hg:true=c.goesBy p.checked.prog) :
  Claim7.holds p (.plain s) {stood:={row:=c,standIns:=[],harness:=har,looks:=lk},kinds:=[],alts:=[],goes:=true,laidByText:=true,laidKinds:=kinds,laidTests:=tests,laidLooks:=Lk}:=by
 have a:∀r:OpenClaim,Claim7.isSixth {stood:={row:=r,standIns:=[],harness:=har,looks:=lk},kinds:=[]}=false:=fun r=>by simpa[Claim7.isSixth]using hn
 exact⟨Claim7.tied_new_at Lk kinds tests (Claim7.new_of_sixth hc har lk hst hnb hm (a c) hl) hw,(fun D hD=>by cases hD),htie,(fun h=>by cases h),hg⟩
end
section
open Go
def inR(n low high:Int):Bool:=decide (low≤n)&&decide (n≤high)
theorem Fz{n low high:Int}:inR n low high=true↔low≤n∧n≤high:=by simp[inR]
theorem Vw{n low high:Int}:inR n low high=false↔n<low∨high<n:=by
 cases h:inR n low high
 ·have:¬(low≤n∧n≤high):=fun h'=>by rw[Fz.2 h']at h;cases h
  simp only[true_iff];omega
 ·have:=Fz.1 h
  simp only[Bool.true_eq_false,false_iff];omega
def Ef(x:Span)(low high:Int):Bool:=decide (low≤x.low)&&decide (x.low≤x.high)&&decide (x.high≤high)
theorem Eg{p:Nat→Prop}{i:Nat}(h:∀j,j<i→p j)(h':p i):∀j,j<i+1→p j:=fun j hj=>by
 rcases Rd j i with hlt|hge
 ·exact h j hlt
 ·obtain rfl:j=i:=by omega
  exact h'
/-- A byte that no name has. -/
def Ov(c:Int):Bool:=(decide (c<97)||decide (c>122))&&(decide (c<48)||decide (c>57))&&(c != 45)
def Alm(s:ByteArray)(j:Nat):Bool:=match s[j]? with|some c=>!Ov ((c.toNat:Nat):Int)|none=>true
def Qb(s:ByteArray):Bool:=match s[0]? with|some c=>!decide (((c.toNat:Nat):Int)<97) && !decide (((c.toNat:Nat):Int)>122)|none=>true
def Hg(s:ByteArray):Bool:=inR s.size 1 14&&Qb s&&(List.range s.size).all (Alm s)
theorem Arf{s:ByteArray}:(List.range s.size).all (Alm s)=true↔∀j,j<s.size→Alm s j=true:=by simp
theorem Aho{s:ByteArray}{j:Nat}(h:j<s.size)(h0:Alm s j=false):(List.range s.size).all (Alm s)=false:=by
 cases hh:(List.range s.size).all (Alm s) with
 | false=>rfl
 | true=>rw[Arf.1 hh j h]at h0;cases h0
/-- The first index of a property. -/
def Cl(n:Nat)(p:Nat→Bool):Option Nat:=(List.range n).find? p
theorem Fh{n i:Nat}{p:Nat→Bool}(h:∀j,j<i→p j=false)(hi:i<n)(hp:p i=true):Cl n p=some i:=by
 unfold Cl
 rw[List.find?_range_eq_some]
 exact⟨hp,by simpa using hi,fun j hj=>by simp[h j hj]⟩
theorem Ep{n:Nat}{p:Nat→Bool}(h:∀j,j<n→p j=false):Cl n p=none:=by
 unfold Cl
 rw[List.find?_eq_none]
 intro j hj
 simp[h j (by simpa using hj)]
theorem Ft{n:Nat}{p:Nat→Bool}:(∃i,i<n∧p i=true∧(∀j,j<i→p j=false)∧Cl n p=some i)∨((∀j,j<n→p j=false)∧Cl n p=none):=by
 cases h:Cl n p with
 | some i =>
  unfold Cl at h
  rw[List.find?_range_eq_some]at h
  exact .inl ⟨i,by simpa using h.2.1,h.1,fun j hj=>by simpa using h.2.2 j hj,rfl⟩
 | none =>
  unfold Cl at h
  rw[List.find?_eq_none]at h
  exact .inr ⟨fun j hj=>by simpa using h j (by simpa using hj),rfl⟩
/-- The first fault of several. -/
def Hl(n:Nat)(f:Nat→Int):Int:=match Cl n (fun j=>f j != 0) with|some i=>f i|none=>0
theorem Db{n i:Nat}{f:Nat→Int}(h:∀j,j<i→f j=0)(hi:i<n){v:Int}(hf:f i=v)(hv:v≠0):Hl n f=v:=by
 subst hf
 unfold Hl
 rw[Fh (i:=i) (fun j hj=>by simp[h j hj]) hi (by simpa using hv)]
theorem Fb{n:Nat}{f:Nat→Int}(h:∀j,j<n→f j=0):Hl n f=0:=by
 unfold Hl
 rw[Ep fun j hj=>by simp[h j hj]]
theorem Fx{n:Nat}{f:Nat→Int}:Hl n f=0↔∀j,j<n→f j=0:=by
 refine⟨fun h=>?_,Fb⟩
 rcases Ft (n:=n) (p:=fun j=>f j != 0) with⟨i,hi,hp,hlt,he⟩|⟨a,_⟩
 ·unfold Hl at h
  rw[he]at h
  exact absurd h (by simpa using hp)
 ·exact fun j hj=>by simpa using a j hj
def Xi(l:List ByteArray)(s:ByteArray)(j:Nat):Bool:=match l[j]? with|some x=>x.toList==s.toList|none=>false
def findI(l:List ByteArray)(s:ByteArray):Int:=match Cl l.length (Xi l s) with|some i=>(i:Int)|none=>-1
def Nh(l:List ByteArray)(i:Nat):Int:=match l[i]? with|some x=>if Hg x then (if findI (l.take i) x≥0 then 5 else 0) else 4|none=>0
def Dd(l:List ByteArray)(most:Int):Int:=if (l.length:Int)>most then 2 else Hl l.length (Nh l)
def orF(a b:Int):Int:=if a=0 then b else a
theorem Gr{a b:Int}(h:a=0):orF a b=b:=by simp[orF,h]
theorem Ry{a b:Int}(h:a≠0):orF a b=a:=by simp[orF,h]
theorem Jx{a b:Int}:orF a b=0↔a=0∧b=0:=by
 unfold orF
 split
 ·rename_i h;simp[h]
 ·rename_i h;simp[h]
def Nn(l:List Span)(i:Nat):Int:=match l[i]? with|some x=>if Ef x 0 1000 then 0 else 1|none=>0
def Fm(l:List Span)(many:Int):Int:=if (l.length:Int)=many then Hl l.length (Nn l) else 2
/-- Another field before this one has its name. -/
def Mk(m:Market)(s:ByteArray)(k:Nat):Bool:=match m.fields[k]? with|some x=>x.name.toList==s.toList|none=>false
def fieldAt(m:Market)(i:Nat):Int:=match m.fields[i]? with
 | none=>0
 | some x=>if Hg x.name then (if (Cl i (Mk m x.name)).isSome then 5 else if inR x.house 0 ((m.houses.length:Int)-1) then (if Ef x.grows 0 1000000 then Fm x.marks (m.marks.length:Int) else 1) else 6) else 4
def Gt(m:Market)(s:Sale)(k:Nat):Int:=match s.sellers[k]? with
 | none=>0
 | some h=>if inR h 0 ((m.houses.length:Int)-1) then (match (if 0<k then s.sellers[k-1]? else none) with|some h'=>if h≤h' then 7 else 0|none=>0) else 6
def Jb(m:Market)(i:Nat):Int:=match m.sales[i]? with
 | none=>0
 | some s=>if inR s.grams 0 1000000 then (if (s.sellers.length:Int)=0 then 2 else Hl s.sellers.length (Gt m s)) else 1
def Ew(m:Market):Int:=if (m.fields.length:Int)>6 then 2 else Hl m.fields.length (fieldAt m)
def Jc(m:Market):Int:=if (m.sales.length:Int)>8 then 2 else Hl m.sales.length (Jb m)
def Cf(m:Market):Int:=orF (Dd m.houses 5) (orF (Dd m.marks 4) (orF (Ew m) (Jc m)))
theorem Bgc{n low high:Int}(h:inR n low high=true):low≤n∧n≤high:=Fz.1 h
theorem Re{x:Span}{low high:Int}:Ef x low high=true↔low≤x.low∧x.low≤x.high∧x.high≤high:=by simp[Ef,and_assoc]
def Qt(x:Span):Prop:=0≤x.low∧x.low≤x.high∧x.high≤1000
theorem Zj{l:List Span}{many:Int}:Fm l many=0↔(l.length:Int)=many∧∀(i:Nat) (x:Span),l[i]?=some x→Qt x:=by
 unfold Fm
 split
 ·rename_i h
  simp only[Fx,h,true_and]
  refine⟨fun h' i x hx=>?_,fun h' j hj=>?_⟩
  ·have a:=h' i (lZ8.1 hx).1
   simp only[Nn,hx]at a
   split at a
   ·rename_i h2;exact Re.1 h2
   ·cases a
  ·obtain⟨x,hx⟩:∃x,l[j]?=some x:=⟨_,Sc hj⟩
   simp only[Nn,hx]
   rw[if_pos (Re.2 (h' j x hx))]
 ·rename_i h;simp[h]
/-- A valid market,told without codes. -/
structure MarketOk(m:Market):Prop where
 houses:Dd m.houses 5=0
 marks:Dd m.marks 4=0
 nfields:m.fields.length≤6
 nsales:m.sales.length≤8
 field:∀(i:Nat) (x:FField),m.fields[i]?=some x→Hg x.name=true∧(∀k,k<i→Mk m x.name k=false)∧(0≤x.house∧x.house≤(m.houses.length:Int)-1)∧(0≤x.grows.low∧x.grows.low≤x.grows.high∧x.grows.high≤1000000)∧x.marks.length=m.marks.length∧∀(i:Nat) (y:Span),x.marks[i]?=some y→Qt y
 sale:∀(i:Nat) (s:Sale),m.sales[i]?=some s→(0≤s.grams∧s.grams≤1000000)∧s.sellers≠[]∧(∀(k:Nat) (h:Int),s.sellers[k]?=some h→0≤h∧h≤(m.houses.length:Int)-1)∧∀(k:Nat) (h h':Int),s.sellers[k]?=some h→s.sellers[k+1]?=some h'→h<h'
theorem Fs{n:Nat}{p:Nat→Bool}:(Cl n p).isSome=false↔∀j,j<n→p j=false:=by
 rcases Ft (n:=n) (p:=p) with⟨i,hi,hp,_,he⟩|⟨a,he⟩
 ·rw[he];simp only[Option.isSome_some,Bool.true_eq_false,false_iff]
  exact fun h=>by rw[h i hi]at hp;cases hp
 ·rw[he];simp only[Option.isSome_none,true_iff];exact a
theorem Ua{l:List ByteArray}{n:Int}(h:Dd l n=0):(l.length:Int)≤n:=by
 unfold Dd at h
 split at h
 ·cases h
 ·omega
theorem Rg{m:Market}(h:Cf m=0):MarketOk m:=by
 unfold Cf at h
 simp only[Jx]at h
 obtain⟨g,j,c,d⟩:=h
 unfold Ew at c
 unfold Jc at d
 split at c
 ·cases c
 rename_i hn3
 split at d
 ·cases d
 rename_i hn4
 rw[Fx]at c d
 refine⟨g,j,by omega,by omega,fun i x hx=>?_,fun i s hs=>?_⟩
 ·have a:=c i (lZ8.1 hx).1
  simp only[fieldAt,hx]at a
  split at a
  ·rename_i ha
   split at a
   ·cases a
   rename_i hb
   split at a
   ·rename_i hc
    split at a
    ·rename_i hd
     rw[Zj]at a
     exact⟨ha,Fs.1 (by simpa using hb),Fz.1 hc,Re.1 hd,by omega,a.2⟩
    ·cases a
   ·cases a
  ·cases a
 ·have a:=d i (lZ8.1 hs).1
  simp only[Jb,hs]at a
  split at a
  ·rename_i ha
   split at a
   ·cases a
   rename_i hb
   rw[Fx]at a
   have f:∀k h,s.sellers[k]?=some h→inR h 0 ((m.houses.length:Int)-1)=true∧∀h',(if 0<k then s.sellers[k-1]? else none)=some h'→h'<h:=fun k h hk=>by
    have b:=a k (lZ8.1 hk).1
    simp only[Gt,hk]at b
    split at b
    ·rename_i hc
     refine⟨hc,fun h' hh'=>?_⟩
     rw[hh']at b
     simp only at b
     split at b
     ·cases b
     ·omega
    ·cases b
   refine⟨Fz.1 ha,fun e=>hb (by rw[e];rfl),fun k h hk=>Fz.1 (f k h hk).1,fun k h h' hk hk'=>(f (k+1) h' hk').2 h ?_⟩
   rw[if_pos (by omega)];exact hk
  ·cases a
theorem Aif{α:Type}[DecidableEq α]{a b:List α}(hl:a.length=b.length)(h:∀i,i<a.length→a[i]?=b[i]?):a=b:=by
 apply Aue
 intro i
 rcases Rd i a.length with hi|hi
 ·exact h i hi
 ·rw[Vy hi,Vy (by omega)]
def atP{α:Type}(l:List α)(p:α→Bool)(i:Nat):Bool:=match l[i]? with|some x=>p x|none=>false
def Oi{α:Type}(l:List α)(p:α→Bool):Int:=match Cl l.length (atP l p) with|some i=>(i:Int)|none=>-1
theorem Yq{α:Type}{l:List α}{p:α→Bool}:decide (Oi l p≥0)=l.any p:=by
 rw[Ajf,decide_eq_true_eq,Axj]
 unfold Oi
 rcases Ft (n:=l.length) (p:=atP l p) with⟨i,hi,hp,_,he⟩|⟨a,he⟩
 ·rw[he]
  simp only[ge_iff_le,Bcq,true_iff]
  unfold atP at hp
  cases hx:l[i]? with
  | none=>rw[hx]at hp;cases hp
  | some x=>rw[hx]at hp;exact⟨x,Hd hx,hp⟩
 ·rw[he]
  constructor
  ·intro h;simp at h
  ·rintro⟨x,hx,hs⟩
   obtain⟨i,hi⟩:=Bcn hx
   have:=a i (lZ8.1 hi).1
   unfold atP at this
   simp only[hi,hs]at this
   cases this
def inL(l:List ByteArray)(k:ByteArray):Bool:=l.any fun x=>k.toList==x.toList
theorem Tq{l:List ByteArray}{i:Nat}{a:ByteArray}(h:l[i]?=some a)(k:ByteArray):(k.toList==a.toList||inL (l.take i) k)=inL (l.take (i+1)) k:=by
 unfold inL
 rw[Atx,h,List.any_append]
 simp[Bool.or_comm]
theorem Yl{l:List ByteArray}{s:ByteArray}:findI l s≥0↔inL l s=true:=by
 unfold findI inL
 rcases Ft (n:=l.length) (p:=Xi l s) with⟨i,hi,hp,_,he⟩|⟨a,he⟩
 ·rw[he]
  simp only[ge_iff_le,Bcq,true_iff,Axj]
  unfold Xi at hp
  cases hx:l[i]? with
  | none=>rw[hx]at hp;cases hp
  | some x =>
   rw[hx]at hp
   exact⟨x,Hd hx,by rw[eq_of_beq hp];simp⟩
 ·rw[he]
  simp only[ge_iff_le,Axj]
  constructor
  ·intro h;omega
  ·rintro⟨x,hx,hs⟩
   obtain⟨i,hi⟩:=Bcn hx
   have:=a i (lZ8.1 hi).1
   unfold Xi at this
   rw[hi,eq_of_beq hs]at this
   simp at this
theorem Ail{l:List ByteArray}{i:Nat}{a:ByteArray}(h:l[i]?=some a)(hn:Hg a=false):Nh l i=4:=by simp[Nh,h,hn]
theorem Aim{l:List ByteArray}{i:Nat}{a:ByteArray}(h:l[i]?=some a)(hn:Hg a=true)(hp:inL (l.take i) a=true):Nh l i=5:=by
 simp only[Nh,h,hn,if_true];rw[if_pos (Yl.2 hp)]
theorem Aik{l:List ByteArray}{i:Nat}{a:ByteArray}(h:l[i]?=some a)(hn:Hg a=true)(hp:inL (l.take i) a=false):Nh l i=0:=by
 simp only[Nh,h,hn,if_true]
 rw[if_neg (fun h'=>by rw[Yl.1 h']at hp;cases hp)]
/-- The bytes of a name. -/
theorem Akl{s:ByteArray}:(s.data.toList.any fun c=>Ov ((c.toNat:Nat):Int)) = !(List.range s.size).all (Alm s):=by
 rw[Ajf]
 simp only[Axj,Bool.not_eq_true',List.all_eq_false,Amr]
 have a:∀i (h:i<s.size),s[i]?=some (s.data[i]'h):=fun i h=>by
  rw[getElem?_pos s i h];rfl
 constructor
 ·rintro⟨c,hc,hb⟩
  obtain⟨i,hi,rfl⟩:=Bgo hc
  have hi':i<s.size:=by simpa using hi
  refine⟨i,hi',?_⟩
  simp only[Alm,a i hi']
  simpa using hb
 ·rintro⟨i,hi,hb⟩
  refine⟨s.data[i]'hi,by simp,?_⟩
  simp only[Alm,a i hi]at hb
  simpa using hb
end
section
open Go
variable{mn:Bool}{X:Frame→List Frame→Ro→Own→Cy→Prop}{ρ:Ro}{σ:Own}
theorem Jl{n low high:Int} :CallsH (CX mn X) 80 #[iV n,iV low,iV high] ρ σ (rP ρ σ (.bool (inR n low high))):=by
 refine Bq 15 [6] Bvv rfl fun Q b h=>w_q rfl rfl fun f d=>Au bF (Arx rfl rfl d fun g c=>Av (iV low) (Av (iV n) (l_v (Uz rfl rfl) (Av (.bool (decide (low≤n))) (Cn (decide (low≤n)) (fun a=>?_) (fun a=>?_))))))
 ·have e:=lZ1 a
  refine l_M (iV n) (gY rfl a) rfl (l_M (iV high) (gY rfl a) rfl (Aa (gY rfl a) (Uz rfl rfl) (l_v (Bt rfl a (v:=.bool (decide (n≤high))) rfl) (Au (.bool (decide (n≤high))) (l_k c (Aq (b (rT (.bool (decide (n≤high))) ?_))))))))
  simp only[inR,a,Ii,Iv,Jt,Jm,Lb,Hz,Iz,Jw,Ix,Jo]
 have e:=lZ0 a
 refine Ap (gN rfl a) (Ap (gN rfl a) (Ap (gN rfl a) (l_v (Bn rfl a (v:=bF) rfl) (Au bF (l_k c (Aq (b (rT bF ?_))))))))
 simp only[inR,a,Ii,Iv,Jt,Jm,Lb,Hz,Iz,Jw,Ix,Jo]
theorem Beo{n low high:Int} :CallsH (CX mn X) 52 #[iV n,iV low,iV high] ρ σ (rP ρ σ (.bool (inR n low high))):=by
 refine Bq 15 [6] Bwk rfl fun Q b h=>w_q rfl rfl fun f d=>Au bF (Arx rfl rfl d fun g c=>Av (iV low) (Av (iV n) (l_v (Uz rfl rfl) (Av (.bool (decide (low≤n))) (Cn (decide (low≤n)) (fun a=>?_) (fun a=>?_))))))
 ·have e:=lZ1 a
  refine l_M (iV n) (gY rfl a) rfl (l_M (iV high) (gY rfl a) rfl (Aa (gY rfl a) (Uz rfl rfl) (l_v (Bt rfl a (v:=.bool (decide (n≤high))) rfl) (Au (.bool (decide (n≤high))) (l_k c (Aq (b (rT (.bool (decide (n≤high))) ?_))))))))
  simp only[inR,a,Ii,Iv,Jt,Jm,Lb,Hz,Iz,Jw,Ix,Jo]
 have e:=lZ0 a
 refine Ap (gN rfl a) (Ap (gN rfl a) (Ap (gN rfl a) (l_v (Bn rfl a (v:=bF) rfl) (Au bF (l_k c (Aq (b (rT bF ?_))))))))
 simp only[inR,a,Ii,Iv,Jt,Jm,Lb,Hz,Iz,Jw,Ix,Jo]
theorem Yc{x:Span}{vx:Value}{low high:Int}(rx:Val ρ vx x):CallsH (CX mn X) 113 #[vx,iV low,iV high] ρ σ (rP ρ σ (.bool (Ef x low high))):=by
 refine Bq 24 [6] Tryz.func113 rfl fun Q e E=>w_q rfl rfl fun p l=>Arv (Eb (v:=vx) rfl fun F=>?_)
 refine Bb (a:=x) rx fun K g d=>Au bF (Arx rfl rfl l fun q f=>Av (iV low) (Arw (Ba Span.f_low Buj rfl ty3 d) fun H i=>?_))
 have⟨z,B⟩:=At.rng i
 refine l_v (Bc ty3 rfl i) (l_v (Uz rfl rfl) (Av (.bool (decide (low≤x.low))) (Cn (decide (low≤x.low)) (fun b=>?_) (fun b=>?_))))
 ·have n:=lZ1 b
  refine Ak (gY rfl b) (Ba Span.f_low Buj rfl ty3 d) fun I j=>?_
  have⟨C,D⟩:=At.rng j
  refine Aa (gY rfl b) (Bc ty3 rfl j) (Ak (gY rfl b) (Ba Span.f_high Buj rfl ty3 d) fun J k=>?_)
  have⟨t,u⟩:=At.rng k
  refine Aa (gY rfl b) (Bc ty3 rfl k) (Aa (gY rfl b) (Uz rfl rfl) (l_v (Bt rfl b (v:=.bool (decide (x.low≤x.high))) rfl) (Av (.bool (decide (x.low≤x.high))) (Cn (decide (x.low≤x.high)) (fun c=>?_) (fun c=>?_)))))
  ·have m:=lZ1 c
   refine Ak (gY rfl c) (Ba Span.f_high Buj rfl ty3 d) fun G h=>?_
   have⟨w,y⟩:=At.rng h
   refine Aa (gY rfl c) (Bc ty3 rfl h) (l_M (iV high) (gY rfl c) rfl (Aa (gY rfl c) (Uz rfl rfl) (l_v (Bt rfl c (v:=.bool (decide (x.high≤high))) rfl) (Au (.bool (decide (x.high≤high))) (l_k f (Aj (Bxj g) (Aq (e (rT (.bool (decide (x.high≤high))) ?_)))))))))
   simp only[Ef,b,c,Ii,Iv,Jt,Jm,Lb,Hz,Iz,Jw,Ix,Jo]
  have m:=lZ0 c
  refine Ap (gN rfl c) (Ap (gN rfl c) (Ap (gN rfl c) (Ap (gN rfl c) (l_v (Bn rfl c (v:=bF) rfl) (Au bF (l_k f (Aj (Bxj g) (Aq (e (rT bF ?_))))))))))
  simp only[Ef,b,c,Ii,Iv,Jt,Jm,Lb,Hz,Iz,Jw,Ix,Jo]
 have n:=lZ0 b
 refine Ap (gN rfl b) (Ap (gN rfl b) (Ap (gN rfl b) (Ap (gN rfl b) (Ap (gN rfl b) (l_v (Bn rfl b (v:=bF) rfl) (Av bF (Ap (gN rfl rfl) (Ap (gN rfl rfl) (Ap (gN rfl rfl) (Ap (gN rfl rfl) (l_v (Bn rfl rfl (v:=bF) rfl) (Au bF (l_k f (Aj (Bxj g) (Aq (e (rT bF ?_)))))))))))))))))
 simp only[Ef,b,Ii,Iv,Jt,Jm,Lb,Hz,Iz,Jw,Ix,Jo]
theorem Asq{x:Span}{vx:Value}{low high:Int}(rx:Val ρ vx x):CallsH (CX mn X) 54 #[vx,iV low,iV high] ρ σ (rP ρ σ (.bool (Ef x low high))):=by
 refine Bq 24 [6] Tryz.func54 rfl fun Q e E=>w_q rfl rfl fun p l=>Arv (Eb (v:=vx) rfl fun F=>?_)
 refine Bb (a:=x) rx fun K g d=>Au bF (Arx rfl rfl l fun q f=>Av (iV low) (Arw (Ba Span.f_low Buj rfl ty3 d) fun H i=>?_))
 have⟨z,B⟩:=At.rng i
 refine l_v (Bc ty3 rfl i) (l_v (Uz rfl rfl) (Av (.bool (decide (low≤x.low))) (Cn (decide (low≤x.low)) (fun b=>?_) (fun b=>?_))))
 ·have n:=lZ1 b
  refine Ak (gY rfl b) (Ba Span.f_low Buj rfl ty3 d) fun I j=>?_
  have⟨C,D⟩:=At.rng j
  refine Aa (gY rfl b) (Bc ty3 rfl j) (Ak (gY rfl b) (Ba Span.f_high Buj rfl ty3 d) fun J k=>?_)
  have⟨t,u⟩:=At.rng k
  refine Aa (gY rfl b) (Bc ty3 rfl k) (Aa (gY rfl b) (Uz rfl rfl) (l_v (Bt rfl b (v:=.bool (decide (x.low≤x.high))) rfl) (Av (.bool (decide (x.low≤x.high))) (Cn (decide (x.low≤x.high)) (fun c=>?_) (fun c=>?_)))))
  ·have m:=lZ1 c
   refine Ak (gY rfl c) (Ba Span.f_high Buj rfl ty3 d) fun G h=>?_
   have⟨w,y⟩:=At.rng h
   refine Aa (gY rfl c) (Bc ty3 rfl h) (l_M (iV high) (gY rfl c) rfl (Aa (gY rfl c) (Uz rfl rfl) (l_v (Bt rfl c (v:=.bool (decide (x.high≤high))) rfl) (Au (.bool (decide (x.high≤high))) (l_k f (Aj (Bxj g) (Aq (e (rT (.bool (decide (x.high≤high))) ?_)))))))))
   simp only[Ef,b,c,Ii,Iv,Jt,Jm,Lb,Hz,Iz,Jw,Ix,Jo]
  have m:=lZ0 c
  refine Ap (gN rfl c) (Ap (gN rfl c) (Ap (gN rfl c) (Ap (gN rfl c) (l_v (Bn rfl c (v:=bF) rfl) (Au bF (l_k f (Aj (Bxj g) (Aq (e (rT bF ?_))))))))))
  simp only[Ef,b,c,Ii,Iv,Jt,Jm,Lb,Hz,Iz,Jw,Ix,Jo]
 have n:=lZ0 b
 refine Ap (gN rfl b) (Ap (gN rfl b) (Ap (gN rfl b) (Ap (gN rfl b) (Ap (gN rfl b) (l_v (Bn rfl b (v:=bF) rfl) (Av bF (Ap (gN rfl rfl) (Ap (gN rfl rfl) (Ap (gN rfl rfl) (Ap (gN rfl rfl) (l_v (Bn rfl rfl (v:=bF) rfl) (Au bF (l_k f (Aj (Bxj g) (Aq (e (rT bF ?_)))))))))))))))))
 simp only[Ef,b,Ii,Iv,Jt,Jm,Lb,Hz,Iz,Jw,Ix,Jo]
theorem Awj{s:ByteArray} :CallsH (CX mn X) 53 #[.string s] ρ σ (rP ρ σ (.bool (Hg s))):=by
 refine Bq 46 [2] Bxf rfl fun Q y au=>w_q rfl rfl fun K1 L=>Au bF (Ary rfl rfl L fun K2 K3 U J=>Av (.string s) (l_v (Afz Btr (s:=s) rfl) (Arv (Bw Beo Bwk ?_))))
 refine l_v (Iy rfl) (Av (.bool (!(inR (s.size:Int) 1 14))) (Cn (!(inR (s.size:Int) 1 14)) (fun b=>?_) (fun b=>?_)))
 ·have K:=not_eq_t b
  have q5:=Vw.1 K
  refine Ap (gN rfl b) (Ap (gN rfl b) (Ap (gN rfl b) (l_v (Bt rfl b (v:=bT) rfl) (Av bT (Ap (gN rfl rfl) (Ap (gN rfl rfl) (Ap (gN rfl rfl) (l_v (Bt rfl rfl (v:=bT) rfl) (l_k J (Co rfl rfl (w_q rfl rfl fun K6 k6=>Au bF (l_k k6 (Aq (y (rT bF ?_)))))))))))))))
  simp only[Hg,Qb,b,K,Ii,Iv,Jt,Jm,Lb,Hz,Iz,Jw,Ix,Jo]
 have k:=not_eq_f b
 have q7:=Fz.1 k
 refine l_M (.string s) (gY rfl b) rfl ?_
 obtain⟨z,I⟩:=Alc (s:=s) (i:=0) (by omega)
 refine Aa (gY rfl b) (Ace 0 z Btr rfl (q:=0) rfl rfl I) (Aa (gY rfl b) (Da rfl rfl) (l_v (Bn rfl b (v:=.bool (decide ((z.toNat:Int)<97))) rfl) (Av (.bool (decide ((z.toNat:Int)<97))) (Cn (decide ((z.toNat:Int)<97)) (fun c=>?_) (fun c=>?_)))))
 ·have q9:=lZ1 c
  refine Ap (gN rfl c) (Ap (gN rfl c) (Ap (gN rfl c) (l_v (Bt rfl c (v:=bT) rfl) (l_k J (Co rfl rfl (w_q rfl rfl fun ae M=>Au bF (l_k M (Aq (y (rT bF ?_))))))))))
  simp only[Hg,Qb,I,b,k,c,Ii,Iv,Jt,Jm,Lb,Hz,Iz,Jw,Ix,Jo]
 have q9:=lZ0 c
 refine l_M (.string s) (gY rfl c) rfl (Aa (gY rfl c) (Ace 0 z Btr rfl (q:=0) rfl rfl I) (Aa (gY rfl c) (Gl rfl rfl) (l_v (Bn rfl c (v:=.bool (decide ((z.toNat:Int)>122))) rfl) (l_k J (Bf (t:=decide ((z.toNat:Int)>122)) rfl (fun f=>?_) (fun f=>?_))))))
 ·have a2:=lZ1 f
  refine w_q rfl rfl fun af N=>Au bF (l_k N (Aq (y (rT bF ?_))))
  simp only[Hg,Qb,I,b,k,c,f,Ii,Iv,Jt,Jm,Lb,Hz,Iz,Jw,Ix,Jo]
 have a2:=lZ0 f
 refine Al (kk U ?_)
 refine Asb rfl rfl fun ag ah O P=>Au (iV 0) (l_k P (Ao (Cc (fun mm ee dd ρ' σ'=>∃(i:Nat),(s.size-i)=mm∧[]=dd∧ρ=ρ'∧σ=σ'∧ee 0=(.string s)∧ee 3=iV i∧(i≤s.size)∧(∀j,j<i→Alm s j=true)∧True) (m:=_) ⟨0,rfl,rfl,rfl,rfl,rfl,rfl,Gn _,fun j h=>absurd h (Sg _),trivial⟩ ?_)))
 rintro m16 e16 _ _ _ ⟨i,rfl,rfl,rfl,rfl,h16_0,h16_3,p16_0,p16_1,_⟩
 refine Asb rfl rfl fun ai aj R T=>l_v (Ah (v:=iV i) h16_3) (l_v (Ah (v:=.string s) h16_0) (l_v (Afz Btr (s:=s) rfl) (l_v (Da rfl rfl) (l_k T (Bf (t:=decide ((i:Int)<(s.size:Int))) rfl (fun g=>?_) (fun g=>?_))))))
 ·have a3:=lZ1 g
  refine Al (kk R ?_)
  refine Ai fun ak C=>Ao (w_q rfl rfl fun al V=>l_v (Ah (v:=.string s) h16_0) (l_v (Ah (v:=iV i) h16_3) ?_))
  obtain⟨a,w⟩:=Alc (s:=s) (i:=i) (by omega)
  refine l_v (Ace i a Btr rfl (q:=(i:Int)) rfl rfl w) (Au (.int .u8 (a.toNat:Int)) (Arx rfl rfl V fun am D=>Av (.int .u8 (a.toNat:Int)) (l_v (Da rfl rfl) (Av (.bool (decide ((a.toNat:Int)<97))) (Cn (decide ((a.toNat:Int)<97)) (fun d=>?_) (fun d=>?_))))))
  ·have a4:=lZ1 d
   refine Ap (gN rfl d) (Ap (gN rfl d) (l_v (Bt rfl d (v:=bT) rfl) (Av bT (l_M (.int .u8 (a.toNat:Int)) (gY rfl rfl) rfl (Aa (gY rfl rfl) (Da rfl rfl) (l_M (.bool (decide ((a.toNat:Int)<48))) (gY rfl rfl) rfl (Cn (decide ((a.toNat:Int)<48)) (fun l=>?_) (fun l=>?_))))))))
   ·have a5:=lZ1 l
    refine Ap (gN rfl l) (Ap (gN rfl l) (Aa (gY rfl rfl) (Bt rfl l (v:=bT) rfl) (l_v (Bt rfl rfl (v:=bT) rfl) (Av bT (l_M (.int .u8 (a.toNat:Int)) (gY rfl rfl) rfl (Aa (gY rfl rfl) (Dg rfl rfl) (l_v (Bt rfl rfl (v:=.bool ((a.toNat:Int) != 45)) rfl) (l_k D (Bf (t:=(a.toNat:Int) != 45) rfl (fun E=>?_) (fun E=>?_))))))))))
    ·have a6:=Ls E
     refine w_q rfl rfl fun an W=>Au bF (l_k W (Aq (y (rT bF ?_))))
     have B:Alm s i=false:=by simp only[Alm,w,Ov,b,k,c,f,g,d,l,E,Ii,Iv,Jt,Jm,Lb,Hz,Iz,Jw,Ix,Jo]
     have x:=Aho (by omega) B
     simp only[Hg,x,b,k,c,f,g,d,l,E,Ii,Iv,Jt,Jm,Lb,Hz,Iz,Jw,Ix,Jo]
    have a6:=Jh E
    refine Al (kk C ?_)
    refine Ag rfl rfl (l_v (Ah (v:=iV i) h16_3) (l_v (Cw (((i+1):Nat):Int)) (Au (iV ((i+1):Nat)) (Ac ?_))))
    refine⟨_,?_,(i+1),rfl,rfl,rfl,rfl,h16_0,rfl,(by omega),(Eg p16_1 (by simp only[Alm,w,Ov,b,k,c,f,g,d,l,E,Ii,Iv,Jt,Jm,Lb,Hz,Iz,Jw,Ix,Jo])),trivial⟩
    omega
   have a5:=lZ0 l
   refine l_M (.int .u8 (a.toNat:Int)) (gY rfl l) rfl (Aa (gY rfl l) (Gl rfl rfl) (Aa (gY rfl rfl) (Bn rfl l (v:=.bool (decide ((a.toNat:Int)>57))) rfl) (l_v (Bt rfl rfl (v:=.bool (decide ((a.toNat:Int)>57))) rfl) (Av (.bool (decide ((a.toNat:Int)>57))) (Cn (decide ((a.toNat:Int)>57)) (fun p=>?_) (fun p=>?_))))))
   ·have a7:=lZ1 p
    refine l_M (.int .u8 (a.toNat:Int)) (gY rfl p) rfl (Aa (gY rfl p) (Dg rfl rfl) (l_v (Bt rfl p (v:=.bool ((a.toNat:Int) != 45)) rfl) (l_k D (Bf (t:=(a.toNat:Int) != 45) rfl (fun F=>?_) (fun F=>?_)))))
    ·have a8:=Ls F
     refine w_q rfl rfl fun ao Y=>Au bF (l_k Y (Aq (y (rT bF ?_))))
     have B:Alm s i=false:=by simp only[Alm,w,Ov,b,k,c,f,g,d,l,p,F,Ii,Iv,Jt,Jm,Lb,Hz,Iz,Jw,Ix,Jo]
     have x:=Aho (by omega) B
     simp only[Hg,x,b,k,c,f,g,d,l,p,F,Ii,Iv,Jt,Jm,Lb,Hz,Iz,Jw,Ix,Jo]
    have a8:=Jh F
    refine Al (kk C ?_)
    refine Ag rfl rfl (l_v (Ah (v:=iV i) h16_3) (l_v (Cw (((i+1):Nat):Int)) (Au (iV ((i+1):Nat)) (Ac ?_))))
    refine⟨_,?_,(i+1),rfl,rfl,rfl,rfl,h16_0,rfl,(by omega),(Eg p16_1 (by simp only[Alm,w,Ov,b,k,c,f,g,d,l,p,F,Ii,Iv,Jt,Jm,Lb,Hz,Iz,Jw,Ix,Jo])),trivial⟩
    omega
   have a7:=lZ0 p
   refine Ap (gN rfl p) (Ap (gN rfl p) (l_v (Bn rfl p (v:=bF) rfl) (l_k D (Cg rfl rfl (Al (kk C ?_))))))
   refine Ag rfl rfl (l_v (Ah (v:=iV i) h16_3) (l_v (Cw (((i+1):Nat):Int)) (Au (iV ((i+1):Nat)) (Ac ?_))))
   refine⟨_,?_,(i+1),rfl,rfl,rfl,rfl,h16_0,rfl,(by omega),(Eg p16_1 (by simp only[Alm,w,Ov,b,k,c,f,g,d,l,p,Ii,Iv,Jt,Jm,Lb,Hz,Iz,Jw,Ix,Jo])),trivial⟩
   omega
  have a4:=lZ0 d
  refine l_M (.int .u8 (a.toNat:Int)) (gY rfl d) rfl (Aa (gY rfl d) (Gl rfl rfl) (l_v (Bn rfl d (v:=.bool (decide ((a.toNat:Int)>122))) rfl) (Av (.bool (decide ((a.toNat:Int)>122))) (Cn (decide ((a.toNat:Int)>122)) (fun e=>?_) (fun e=>?_)))))
  ·have a9:=lZ1 e
   refine l_M (.int .u8 (a.toNat:Int)) (gY rfl e) rfl (Aa (gY rfl e) (Da rfl rfl) (l_M (.bool (decide ((a.toNat:Int)<48))) (gY rfl e) rfl (Cn (decide ((a.toNat:Int)<48)) (fun n=>?_) (fun n=>?_))))
   ·have aa:=lZ1 n
    refine Ap (gN rfl n) (Ap (gN rfl n) (Aa (gY rfl e) (Bt rfl n (v:=bT) rfl) (l_v (Bt rfl e (v:=bT) rfl) (Av bT (l_M (.int .u8 (a.toNat:Int)) (gY rfl rfl) rfl (Aa (gY rfl rfl) (Dg rfl rfl) (l_v (Bt rfl rfl (v:=.bool ((a.toNat:Int) != 45)) rfl) (l_k D (Bf (t:=(a.toNat:Int) != 45) rfl (fun G=>?_) (fun G=>?_))))))))))
    ·have ab:=Ls G
     refine w_q rfl rfl fun ap Z=>Au bF (l_k Z (Aq (y (rT bF ?_))))
     have B:Alm s i=false:=by simp only[Alm,w,Ov,b,k,c,f,g,d,e,n,G,Ii,Iv,Jt,Jm,Lb,Hz,Iz,Jw,Ix,Jo]
     have x:=Aho (by omega) B
     simp only[Hg,x,b,k,c,f,g,d,e,n,G,Ii,Iv,Jt,Jm,Lb,Hz,Iz,Jw,Ix,Jo]
    have ab:=Jh G
    refine Al (kk C ?_)
    refine Ag rfl rfl (l_v (Ah (v:=iV i) h16_3) (l_v (Cw (((i+1):Nat):Int)) (Au (iV ((i+1):Nat)) (Ac ?_))))
    refine⟨_,?_,(i+1),rfl,rfl,rfl,rfl,h16_0,rfl,(by omega),(Eg p16_1 (by simp only[Alm,w,Ov,b,k,c,f,g,d,e,n,G,Ii,Iv,Jt,Jm,Lb,Hz,Iz,Jw,Ix,Jo])),trivial⟩
    omega
   have aa:=lZ0 n
   refine l_M (.int .u8 (a.toNat:Int)) (gY rfl n) rfl (Aa (gY rfl n) (Gl rfl rfl) (Aa (gY rfl e) (Bn rfl n (v:=.bool (decide ((a.toNat:Int)>57))) rfl) (l_v (Bt rfl e (v:=.bool (decide ((a.toNat:Int)>57))) rfl) (Av (.bool (decide ((a.toNat:Int)>57))) (Cn (decide ((a.toNat:Int)>57)) (fun u=>?_) (fun u=>?_))))))
   ·have ac:=lZ1 u
    refine l_M (.int .u8 (a.toNat:Int)) (gY rfl u) rfl (Aa (gY rfl u) (Dg rfl rfl) (l_v (Bt rfl u (v:=.bool ((a.toNat:Int) != 45)) rfl) (l_k D (Bf (t:=(a.toNat:Int) != 45) rfl (fun H=>?_) (fun H=>?_)))))
    ·have ad:=Ls H
     refine w_q rfl rfl fun aq a0=>Au bF (l_k a0 (Aq (y (rT bF ?_))))
     have B:Alm s i=false:=by simp only[Alm,w,Ov,b,k,c,f,g,d,e,n,u,H,Ii,Iv,Jt,Jm,Lb,Hz,Iz,Jw,Ix,Jo]
     have x:=Aho (by omega) B
     simp only[Hg,x,b,k,c,f,g,d,e,n,u,H,Ii,Iv,Jt,Jm,Lb,Hz,Iz,Jw,Ix,Jo]
    have ad:=Jh H
    refine Al (kk C ?_)
    refine Ag rfl rfl (l_v (Ah (v:=iV i) h16_3) (l_v (Cw (((i+1):Nat):Int)) (Au (iV ((i+1):Nat)) (Ac ?_))))
    refine⟨_,?_,(i+1),rfl,rfl,rfl,rfl,h16_0,rfl,(by omega),(Eg p16_1 (by simp only[Alm,w,Ov,b,k,c,f,g,d,e,n,u,H,Ii,Iv,Jt,Jm,Lb,Hz,Iz,Jw,Ix,Jo])),trivial⟩
    omega
   have ac:=lZ0 u
   refine Ap (gN rfl u) (Ap (gN rfl u) (l_v (Bn rfl u (v:=bF) rfl) (l_k D (Cg rfl rfl (Al (kk C ?_))))))
   refine Ag rfl rfl (l_v (Ah (v:=iV i) h16_3) (l_v (Cw (((i+1):Nat):Int)) (Au (iV ((i+1):Nat)) (Ac ?_))))
   refine⟨_,?_,(i+1),rfl,rfl,rfl,rfl,h16_0,rfl,(by omega),(Eg p16_1 (by simp only[Alm,w,Ov,b,k,c,f,g,d,e,n,u,Ii,Iv,Jt,Jm,Lb,Hz,Iz,Jw,Ix,Jo])),trivial⟩
   omega
  have a9:=lZ0 e
  refine Ap (gN rfl e) (Ap (gN rfl e) (Ap (gN rfl e) (Ap (Jf rfl rfl rfl) (Ap (Jf rfl rfl rfl) (Ap (gN rfl e) (l_v (Bn rfl e (v:=bF) rfl) (Av bF (Ap (gN rfl rfl) (Ap (gN rfl rfl) (l_v (Bn rfl rfl (v:=bF) rfl) (l_k D (Cg rfl rfl (Al (kk C ?_))))))))))))))
  refine Ag rfl rfl (l_v (Ah (v:=iV i) h16_3) (l_v (Cw (((i+1):Nat):Int)) (Au (iV ((i+1):Nat)) (Ac ?_))))
  refine⟨_,?_,(i+1),rfl,rfl,rfl,rfl,h16_0,rfl,(by omega),(Eg p16_1 (by simp only[Alm,w,Ov,b,k,c,f,g,d,e,Ii,Iv,Jt,Jm,Lb,Hz,Iz,Jw,Ix,Jo])),trivial⟩
  omega
 have a3:=lZ0 g
 refine Bx (kk O ?_)
 refine w_q rfl rfl fun ar a1=>Au bT (l_k a1 (Aq (y (rT bT ?_))))
 have x:=Arf.2 fun j hj=>p16_1 j (by omega)
 simp only[Hg,Qb,x,I,b,k,c,f,g,Ii,Iv,Jt,Jm,Lb,Hz,Iz,Jw,Ix,Jo]
theorem Bop{l:List ByteArray}{vl:Value}{s:ByteArray}(rl:Val ρ vl l):CallsH (CX mn X) 95 #[vl,.string s] ρ σ (rP ρ σ (iV (findI l s))):=by
 refine Bq 19 [4] Tryz.func95 rfl fun Q e R=>w_q rfl rfl fun F g=>Au (iV 0) (Ary rfl rfl g fun J K x y=>Au (iV 0) (l_k y (Ao (Cc (fun mm ee dd ρ' σ'=>∃(i:Nat),(l.length-i)=mm∧[]=dd∧ρ=ρ'∧σ=σ'∧ee 0=vl∧ee 1=(.string s)∧ee 5=iV i∧(i≤l.length)∧(∀j,j<i→Xi l s j=false)∧True) (m:=_) ⟨0,rfl,rfl,rfl,rfl,rfl,rfl,rfl,Gn _,fun j h=>absurd h (Sg _),trivial⟩ ?_))))
 rintro m4 e4 _ _ _ ⟨i,rfl,rfl,rfl,rfl,h4_0,h4_1,h4_5,p4_0,p4_1,_⟩
 refine Asb rfl rfl fun L M z B=>l_v (Ah (v:=iV i) h4_5) (l_v (Ah (v:=vl) h4_0) ?_)
 have P:=Bxo rl
 refine l_v (Ci (el:=9) Bts rfl rl) (l_v (Da rfl rfl) (l_k B (Bf (t:=decide ((i:Int)<(l.length:Int))) rfl (fun b=>?_) (fun b=>?_))))
 ·have E:=lZ1 b
  refine Al (kk z ?_)
  refine Ai fun N C=>Ao (w_q rfl rfl fun G k=>l_v (Ah (v:=vl) h4_0) (l_v (Ah (v:=iV i) h4_5) ?_))
  obtain⟨d,c⟩:=Ed (xs:=l) (i:=i) (by omega)
  refine Arw (Ch i Bts ty9 rfl rl (q:=(i:Int)) rfl rfl c) fun T f=>?_
  have O:=At.slen f
  refine l_v (Pk ty9 rfl f) (l_v (Ah (v:=.string s) h4_1) (l_v (Avv (p:=d) (q:=s) rfl rfl) (l_k k (Bf (t:=(d).toList==(s).toList) rfl (fun a=>?_) (fun a=>?_)))))
  ·have D:=Jr a
   refine w_q rfl rfl fun H u=>l_v (Ah (v:=iV i) h4_5) (Au (iV i) (l_k u (Aq (e (rT (iV i) ?_)))))
   have hi:=Fh (n:=l.length) p4_1 (by omega) (show Xi l s i=true by simp only[Xi,c,b,a])
   simp only[findI,hi]
  have D:=Jq a
  refine Al (kk C ?_)
  refine Ag rfl rfl (l_v (Ah (v:=iV i) h4_5) (l_v (Cw (((i+1):Nat):Int)) (Au (iV ((i+1):Nat)) (Ac ?_))))
  refine⟨_,?_,(i+1),rfl,rfl,rfl,rfl,h4_0,h4_1,rfl,(by omega),(Eg p4_1 (by simp only[Xi,c,b,a])),trivial⟩
  omega
 have E:=lZ0 b
 refine Bx (kk x ?_)
 refine w_q rfl rfl fun I w=>Au (iV (-1)) (l_k w (Aq (e (rT (iV (-1)) ?_))))
 have hn:=Ep (n:=l.length) fun j hj=>p4_1 j (by omega)
 simp only[findI,hn]
theorem Aqd{l:List ByteArray}{vl:Value}{most:Int}(rl:Val ρ vl l):CallsH (CX mn X) 51 #[vl,iV most] ρ σ (rP ρ σ (iV (Dd l most))):=by
 refine Bq 31 [4] Bxe rfl fun Q f a7=>w_q rfl rfl fun R w=>Au (iV 0) (Ary rfl rfl w fun Z K3 D H=>Av vl ?_)
 have g4:=Bxo rl
 refine l_v (Ci (el:=9) Bts rfl rl) (Av (iV most) (l_v (Gl rfl rfl) (l_k H (Bf (t:=decide ((l.length:Int)>most)) rfl (fun c=>?_) (fun c=>?_)))))
 ·have O:=lZ1 c
  refine w_q rfl rfl fun K6 J=>Au (iV 2) (l_k J (Aq (f (rT (iV 2) ?_))))
  rw[Dd,if_pos (by omega)]
 have O:=lZ0 c
 refine Al (kk D ?_)
 refine Asb rfl rfl fun K7 K8 K L=>Au (iV 0) (l_k L (Ao (Cc (fun mm ee dd ρ' σ'=>∃(i:Nat),(l.length-i)=mm∧[]=dd∧ρ=ρ'∧σ=σ'∧ee 0=vl∧ee 5=iV i∧(i≤l.length)∧(∀j,j<i→Nh l j=0)∧True) (m:=_) ⟨0,rfl,rfl,rfl,rfl,rfl,rfl,Gn _,fun j h=>absurd h (Sg _),trivial⟩ ?_)))
 rintro m9 e9 _ _ _ ⟨i,rfl,rfl,rfl,rfl,h9_0,h9_5,p9_0,p9_1,_⟩
 refine Asb rfl rfl fun T U x y=>l_v (Ah (v:=iV i) h9_5) (l_v (Ah (v:=vl) h9_0) ?_)
 have a4:=Bxo rl
 refine l_v (Ci (el:=9) Bts rfl rl) (l_v (Da rfl rfl) (l_k y (Bf (t:=decide ((i:Int)<(l.length:Int))) rfl (fun a=>?_) (fun a=>?_))))
 ·have M:=lZ1 a
  refine Al (kk x ?_)
  refine Ai fun V z=>Ao (Asb rfl rfl fun W Y B C=>l_v (Ah (v:=vl) h9_0) (l_v (Ah (v:=iV i) h9_5) ?_))
  obtain⟨g,e⟩:=Ed (xs:=l) (i:=i) (by omega)
  refine Arw (Ch i Bts ty9 rfl rl (q:=(i:Int)) rfl rfl e) fun a8 n=>?_
  have a5:=At.slen n
  refine l_v (Pk ty9 rfl n) (Arv (Bw Awj Bxf ?_))
  refine l_v (Iy rfl) (l_k C (Bf (t:=!(Hg g)) rfl (fun b=>?_) (fun b=>?_)))
  ·have u:=not_eq_t b
   refine w_q rfl rfl fun a0 E=>Au (iV 4) (l_k E (Aq (f (rT (iV 4) ?_))))
   have hf:Nh l i=4:=by simp only[Nh,e,c,a,b,u];first|rfl|omega|(simp;done)|(simp;omega)
   rw[Dd,if_neg (by omega),Db p9_1 (by omega) hf (by omega)]
  have k:=not_eq_f b
  refine Al (kk B ?_)
  refine Ai fun a1 F=>Pr (Bu 0 Anu rfl (Ah (v:=vl) h9_0) (Bu 1 Anv rfl (Ah (v:=iV i) h9_5) (De 2 Aoh rfl (Ayv i Bts ty9 rfl rl (q:=(i:Int)) rfl rfl (by omega)) fun a9 P=>Bu 3 Aoi rfl (Ah (v:=vl) h9_0) (Cj 4 Aoj rfl (Ah (v:=iV i) h9_5) (Ho 5 Anw rfl (Ch i Bts ty9 rfl rl (q:=(i:Int)) rfl rfl e) fun aa p=>?_)))))
  have a6:=At.slen p
  refine Cj 6 Anx rfl (Pk ty9 rfl p) (Ww 7 Anz rfl (Bm (Bop P) Tryz.func95 rfl rfl ⟨rfl,rfl,trivial⟩ ⟨Bxm,?_⟩))
  refine Cj 8 Aoa rfl (Uy rfl rfl) (Ec rfl (kk F ?_))
  refine Bf (t:=decide (findI (l.take i) g≥0)) rfl (fun d=>?_) (fun d=>?_)
  ·have N:=lZ1 d
   refine w_q rfl rfl fun a2 G=>Au (iV 5) (l_k G (Aq (f (rT (iV 5) ?_))))
   have hf:Nh l i=5:=by simp only[Nh,e,c,a,b,k,d];first|rfl|omega|(simp;done)|(simp;omega)
   rw[Dd,if_neg (by omega),Db p9_1 (by omega) hf (by omega)]
  have N:=lZ0 d
  refine Al (kk z ?_)
  refine Ag rfl rfl (l_v (Ah (v:=iV i) h9_5) (l_v (Cw (((i+1):Nat):Int)) (Au (iV ((i+1):Nat)) (Ac ?_))))
  refine⟨_,?_,(i+1),rfl,rfl,rfl,rfl,h9_0,rfl,(by omega),(Eg p9_1 (by simp only[Nh,e,c,a,b,k,d];first|rfl|omega|(simp;done)|(simp;omega))),trivial⟩
  omega
 have M:=lZ0 a
 refine Bx (kk K ?_)
 refine w_q rfl rfl fun a3 I=>Au (iV 0) (l_k I (Aq (f (rT (iV 0) ?_))))
 rw[Dd,if_neg (by omega),Fb fun j hj=>p9_1 j (by omega)]
end
section
open Go
variable{mn:Bool}{X:Frame→List Frame→Ro→Own→Cy→Prop}{ρ:Ro}{σ:Own}
theorem Aqb{l:List Span}{vl:Value}{many:Int}(rl:Val ρ vl l):CallsH (CX mn X) 55 #[vl,iV many] ρ σ (rP ρ σ (iV (Fm l many))):=by
 refine Bq 22 [4] Tryz.func55 rfl fun Q e a0=>w_q rfl rfl fun K u=>Au (iV 0) (Ary rfl rfl u fun P U B E=>Av vl ?_)
 have g4:=Bxo rl
 refine l_v (Ci (el:=48) Bug rfl rl) (Av (iV many) (l_v (Dg rfl rfl) (l_k E (Bf (t:=(l.length:Int) != many) rfl (fun c=>?_) (fun c=>?_)))))
 ·have g:=Ls c
  refine w_q rfl rfl fun V F=>Au (iV 2) (l_k F (Aq (e (rT (iV 2) ?_))))
  rw[Fm,if_neg (by omega)]
 have g:=Jh c
 refine Al (kk B ?_)
 refine Asb rfl rfl fun W Y G H=>Au (iV 0) (l_k H (Ao (Cc (fun mm ee dd ρ' σ'=>∃(i:Nat),(l.length-i)=mm∧[]=dd∧ρ=ρ'∧σ=σ'∧ee 0=vl∧ee 5=iV i∧(i≤l.length)∧(∀j,j<i→Nn l j=0)∧True) (m:=_) ⟨0,rfl,rfl,rfl,rfl,rfl,rfl,Gn _,fun j h=>absurd h (Sg _),trivial⟩ ?_)))
 rintro m9 e9 _ _ _ ⟨i,rfl,rfl,rfl,rfl,h9_0,h9_5,p9_0,p9_1,_⟩
 refine Asb rfl rfl fun L M w x=>l_v (Ah (v:=iV i) h9_5) (l_v (Ah (v:=vl) h9_0) ?_)
 have Z:=Bxo rl
 refine l_v (Ci (el:=48) Bug rfl rl) (l_v (Da rfl rfl) (l_k x (Bf (t:=decide ((i:Int)<(l.length:Int))) rfl (fun a=>?_) (fun a=>?_))))
 ·have f:=lZ1 a
  refine Al (kk w ?_)
  refine Ai fun N y=>Ao (w_q rfl rfl fun O z=>l_v (Ah (v:=vl) h9_0) (l_v (Ah (v:=iV i) h9_5) ?_))
  obtain⟨k,d⟩:=Ed (xs:=l) (i:=i) (by omega)
  refine Arw (Ch i Bug Mx rfl rl (q:=(i:Int)) rfl rfl d) fun a1 I=>Arw (Ax Mx rfl I) fun a2 J=>Arv (Bw (Asq J) Tryz.func54 ?_)
  refine l_v (Iy rfl) (l_k z (Bf (t:=!(Ef k 0 1000)) rfl (fun b=>?_) (fun b=>?_)))
  ·have n:=not_eq_t b
   refine w_q rfl rfl fun R C=>Au (iV 1) (l_k C (Aq (e (rT (iV 1) ?_))))
   have hf:Nn l i=1:=by simp[Nn,d,c,a,b,n,g,f]
   rw[Fm,if_pos (by omega),Db p9_1 (by omega) hf (by omega)]
  have p:=not_eq_f b
  refine Al (kk y ?_)
  refine Ag rfl rfl (l_v (Ah (v:=iV i) h9_5) (l_v (Cw (((i+1):Nat):Int)) (Au (iV ((i+1):Nat)) (Ac ?_))))
  refine⟨_,?_,(i+1),rfl,rfl,rfl,rfl,h9_0,rfl,(by omega),(Eg p9_1 (by simp[Nn,d,c,a,b,p,g,f])),trivial⟩
  omega
 have f:=lZ0 a
 refine Bx (kk G ?_)
 refine w_q rfl rfl fun T D=>Au (iV 0) (l_k D (Aq (e (rT (iV 0) ?_))))
 rw[Fm,if_pos (by omega),Fb fun j hj=>p9_1 j (by omega)]
theorem Ama{m:Market}{vm:Value}(rm:Val ρ vm m):CallsH (CX mn X) 15 #[vm] ρ σ (rP ρ σ (iV (Cf m))):=by
 refine Bq 137 [2] Tryz.func15 rfl fun Q y gg=>w_q rfl rfl fun K1 k1=>Arv (Eb (v:=vm) rfl fun k2=>?_)
 refine Bb (a:=m) rm fun b9 B w=>Au (iV 0) (Ary rfl rfl k1 fun K3 K4 k3 k4=>Arw (Ba Market.f_houses Btt rfl Hw w) fun v5 r5=>Arw (Ax Hw rfl r5) fun v6 r6=>Arv (Bw (Aqd r6) Bxe ?_))
 refine Au (iV (Dd m.houses 5)) (Arx rfl rfl k4 fun K7 k7=>Av (iV (Dd m.houses 5)) (l_v (Dg rfl rfl) (l_k k7 (Bf (t:=Dd m.houses 5 != 0) rfl (fun u=>?_) (fun u=>?_)))))
 ·have d:=Ls u
  refine w_q rfl rfl fun K9 k9=>Av (iV (Dd m.houses 5)) (Au (iV (Dd m.houses 5)) (l_k k9 (Aj (Bxj B) (Aq (y (rT (iV (Dd m.houses 5)) ?_))))))
  rw[Cf,Ry d]
 have d:=Jh u
 refine Al (kk k3 ?_)
 refine Asb rfl rfl fun e7 ed bc bi=>Arw (Ba Market.f_marks Btt rfl Hw w) fun go da=>Arw (Ax Hw rfl da) fun gq db=>Arv (Bw (Aqd db) Bxe ?_)
 refine Au (iV (Dd m.marks 4)) (Arx rfl rfl bi fun er bx=>Av (iV (Dd m.marks 4)) (l_v (Dg rfl rfl) (l_k bx (Bf (t:=Dd m.marks 4 != 0) rfl (fun g=>?_) (fun g=>?_)))))
 ·have e:=Ls g
  refine w_q rfl rfl fun ex c2=>Av (iV (Dd m.marks 4)) (Au (iV (Dd m.marks 4)) (l_k c2 (Aj (Bxj B) (Aq (y (rT (iV (Dd m.marks 4)) ?_))))))
  rw[Cf,Gr d,Ry e]
 have e:=Jh g
 refine Al (kk bc ?_)
 refine Asb rfl rfl fun ey f1 c3 c6=>Arw (Ba Market.f_fields Btt rfl Se w) fun h7 dn=>Arw (Ax Se rfl dn) fun h8 ay=>?_
 have g7:=Bxo ay
 refine l_v (Ci (el:=51) Bue rfl ay) (l_v (Gl rfl rfl) (l_k c6 (Bf (t:=decide ((m.fields.length:Int)>6)) rfl (fun l=>?_) (fun l=>?_))))
 ·have F:=lZ1 l
  refine w_q rfl rfl fun f2 c7=>Au (iV 2) (l_k c7 (Aj (Bxj B) (Aq (y (rT (iV 2) ?_)))))
  rw[Cf,Gr d,Gr e,Ew,if_pos F,Ry (by omega)]
 have F:=lZ0 l
 refine Al (kk c3 ?_)
 refine Asb rfl rfl fun f3 f4 c8 c9=>Au (iV 0) (l_k c9 (Ao (Cc (fun mm ee dd ρ' σ'=>∃(i:Nat),(m.fields.length-i)=mm∧[]=dd∧b9=ρ'∧σ=σ'∧ee 1=pV k2∧ee 5=iV i∧(i≤m.fields.length)∧(∀j,j<i→fieldAt m j=0)∧True) (m:=_) ⟨0,rfl,rfl,rfl,rfl,rfl,rfl,Gn _,fun j h=>absurd h (Sg _),trivial⟩ ?_)))
 rintro m26 e26 _ _ _ ⟨i,rfl,rfl,rfl,rfl,h26_1,h26_5,p26_0,p26_1,_⟩
 refine Asb rfl rfl fun f5 f6 ca cb=>l_v (Ah (v:=iV i) h26_5) (Arw (Ba Market.f_fields Btt rfl Se w h26_1) fun h9 dp=>Arw (Ax Se rfl dp) fun ha az=>?_)
 have g8:=Bxo az
 refine l_v (Ci (el:=51) Bue rfl az) (l_v (Da rfl rfl) (l_k cb (Bf (t:=decide ((i:Int)<(m.fields.length:Int))) rfl (fun n=>?_) (fun n=>?_))))
 ·have I:=lZ1 n
  refine Al (kk ca ?_)
  refine Ai fun f7 cc=>Ao (w_q rfl rfl fun f8 cd=>Arw (Ba Market.f_fields Btt rfl Se w h26_1) fun hb dq=>Arw (Ax Se rfl dq) fun hc dr=>l_v (Ah (v:=iV i) h26_5) ?_)
  obtain⟨f,R⟩:=Ed (xs:=m.fields) (i:=i) (by omega)
  refine Arw (Ch i Bue Lo rfl dr (q:=(i:Int)) rfl rfl R) fun hd ds=>Arw (Ax Lo rfl ds) fun e4 b0=>Arv (Ct Xu fun ce=>?_)
  refine Cx rfl (Dv (v:=e4) (a:=f) (c:=Aah) Lo rfl rfl b0 rfl ?_)
  refine Bb (a:=f) b0 fun e6 T a5=>?_
  replace w:=At.mono T w
  refine Ary rfl rfl cd fun f9 fa cf cg=>Arw (Ba FField.f_name Btx rfl ty9 a5) fun he b1=>?_
  have g9:=At.slen b1
  refine l_v (Pk ty9 rfl b1) (Arv (Bw Awj Bxf ?_))
  refine l_v (Iy rfl) (l_k cg (Bf (t:=!(Hg f.name)) rfl (fun H=>?_) (fun H=>?_)))
  ·have ba:=not_eq_t H
   refine w_q rfl rfl fun fb ch=>Au (iV 4) (l_k ch (Aj (Bxj (Bxn B T)) (Aq (y (rT (iV 4) ?_)))))
   have hf:fieldAt m i=4:=by simp[fieldAt,R,u,g,l,n,H,ba,d,e,F,I]
   have hF:Ew m=4:=by rw[Ew,if_neg (by omega),Db p26_1 (by omega) hf (by omega)]
   rw[Cf,Gr d,Gr e,hF,Ry (by omega)]
  have O:=not_eq_f H
  refine Al (kk cf ?_)
  refine Asb rfl rfl fun fc fd ci cj=>Au (iV 0) (l_k cj (Ao (Cc (fun mm ee dd ρ' σ'=>∃(k:Nat),(i-k)=mm∧[]=dd∧e6=ρ'∧σ=σ'∧ee 1=pV k2∧ee 5=iV i∧ee 6=pV ce∧ee 7=iV k∧(k≤i)∧(∀j,j<k→Mk m f.name j=false)∧True) (m:=_) ⟨0,rfl,rfl,rfl,rfl,h26_1,h26_5,rfl,rfl,Gn _,fun j h=>absurd h (Sg _),trivial⟩ ?_)))
  rintro m52 e52 _ _ _ ⟨k,rfl,rfl,rfl,rfl,h52_1,h52_5,h52_6,h52_7,p52_0,p52_1,_⟩
  refine Asb rfl rfl fun fe ff ck cl=>l_v (Ah (v:=iV k) h52_7) (l_v (Ah (v:=iV i) h52_5) (l_v (Da rfl rfl) (l_k cl (Bf (t:=decide ((k:Int)<(i:Int))) rfl (fun K=>?_) (fun K=>?_)))))
  ·have N:=lZ1 K
   refine Al (kk ck ?_)
   refine Ai fun fg cm=>Ao (Ai fun fh cn=>Pr (De 0 Anu rfl (Ba Market.f_fields Btt rfl Se w h52_1) fun hg dt=>De 1 Anv rfl (Ax Se rfl dt) fun hh du=>Bu 2 Aoh rfl (Ah (v:=iV k) h52_7) ?_))
   obtain⟨ag,ac⟩:=Ed (xs:=m.fields) (i:=k) (by omega)
   refine De 3 Aoi rfl (Ch k Bue Lo rfl du (q:=(k:Int)) rfl rfl ac) fun hk dv=>De 4 Aoj rfl (Ba FField.f_name Btx rfl ty9 dv) fun hl b2=>?_
   have ga:=At.slen b2
   refine Bu 5 Anw rfl (Pk ty9 rfl b2) (Ho 6 Anx rfl (Ba FField.f_name Btx rfl ty9 a5 h52_6) fun hm b3=>?_)
   have gb:=At.slen b3
   refine Cj 7 Anz rfl (Pk ty9 rfl b3) (Cj 8 Aoa rfl (Avv (p:=ag.name) (q:=f.name) rfl rfl) (Ec rfl (kk cn ?_)))
   refine Bf (t:=(ag.name).toList==(f.name).toList) rfl (fun V=>?_) (fun V=>?_)
   ·have a8:=Jr V
    refine w_q rfl rfl fun fi co=>Au (iV 5) (l_k co (Aj (Bxj (Bxn B T)) (Aq (y (rT (iV 5) ?_)))))
    have hi:Cl i (Mk m f.name)=some k:=Fh p52_1 (by omega) (by simp[Mk,ac,u,g,l,n,H,O,K,V,d,e,F,I,N,a8])
    have hf:fieldAt m i=5:=by simp[fieldAt,R,hi,u,g,l,n,H,O,K,V,d,e,F,I,N,a8]
    have hF:Ew m=5:=by rw[Ew,if_neg (by omega),Db p26_1 (by omega) hf (by omega)]
    rw[Cf,Gr d,Gr e,hF,Ry (by omega)]
   have a8:=Jq V
   refine Al (kk cm ?_)
   refine Ag rfl rfl (l_v (Ah (v:=iV k) h52_7) (l_v (Cw (((k+1):Nat):Int)) (Au (iV ((k+1):Nat)) (Ac ?_))))
   refine⟨_,?_,(k+1),rfl,rfl,rfl,rfl,h52_1,h52_5,h52_6,rfl,(by omega),(Eg p52_1 (by simp[Mk,ac,u,g,l,n,H,O,K,V,d,e,F,I,N,a8])),trivial⟩
   omega
  have N:=lZ0 K
  refine Bx (kk ci ?_)
  refine Asb rfl rfl fun fj fk cp cq=>Arw (Ba FField.f_house Btx rfl ty3 a5 h52_6) fun hn b4=>?_
  have⟨gc,gd⟩:=At.rng b4
  refine l_v (Bc ty3 rfl b4) (Arw (Ba Market.f_houses Btt rfl Hw w h52_1) fun ho dw=>Arw (Ax Hw rfl dw) fun hr b5=>?_)
  have ge:=Bxo b5
  refine l_v (Ci (el:=9) Bts rfl b5) (l_v (Ou rfl rfl (z:=(m.houses.length:Int)-1) wrE) (Arv (Bw Beo Bwk ?_)))
  refine l_v (Iy rfl) (l_k cq (Bf (t:=!(inR f.house 0 ((m.houses.length:Int)-1))) rfl (fun P=>?_) (fun P=>?_)))
  ·have ai:=not_eq_t P
   have d5:=Vw.1 ai
   refine w_q rfl rfl fun fl cr=>Au (iV 6) (l_k cr (Aj (Bxj (Bxn B T)) (Aq (y (rT (iV 6) ?_)))))
   have hi:Cl i (Mk m f.name)=none:=Ep fun j hj=>p52_1 j (by omega)
   have hf:fieldAt m i=6:=by simp[fieldAt,R,hi,u,g,l,n,H,O,K,P,ai,d,e,F,I,N,d5]
   have hF:Ew m=6:=by rw[Ew,if_neg (by omega),Db p26_1 (by omega) hf (by omega)]
   rw[Cf,Gr d,Gr e,hF,Ry (by omega)]
  have a7:=not_eq_f P
  have af:=Fz.1 a7
  refine Al (kk cp ?_)
  refine Asb rfl rfl fun fm fn cs ct=>Arw (Ba FField.f_grows Btx rfl Mx a5 h52_6) fun hs dx=>Arw (Ax Mx rfl dx) fun ht dy=>Arv (Bw (Asq dy) Tryz.func54 ?_)
  refine l_v (Iy rfl) (l_k ct (Bf (t:=!(Ef f.grows 0 1000000)) rfl (fun W=>?_) (fun W=>?_)))
  ·have bb:=not_eq_t W
   refine w_q rfl rfl fun fo cu=>Au (iV 1) (l_k cu (Aj (Bxj (Bxn B T)) (Aq (y (rT (iV 1) ?_)))))
   have hi:Cl i (Mk m f.name)=none:=Ep fun j hj=>p52_1 j (by omega)
   have hf:fieldAt m i=1:=by simp[fieldAt,R,hi,u,g,l,n,H,O,K,P,a7,W,bb,d,e,F,I,N,af]
   have hF:Ew m=1:=by rw[Ew,if_neg (by omega),Db p26_1 (by omega) hf (by omega)]
   rw[Cf,Gr d,Gr e,hF,Ry (by omega)]
  have aj:=not_eq_f W
  refine Al (kk cs ?_)
  refine w_q rfl rfl fun fp cv=>Arw (Ba FField.f_marks Btx rfl Uo a5 h52_6) fun hu dz=>Arw (Ax Uo rfl dz) fun hv e0=>Arw (Ba Market.f_marks Btt rfl Hw w h52_1) fun hx e1=>Arw (Ax Hw rfl e1) fun hy b6=>?_
  have gf:=Bxo b6
  refine l_v (Ci (el:=9) Bts rfl b6) (Arv (Bw (Aqb e0) Tryz.func55 ?_))
  refine Au (iV (Fm f.marks (m.marks.length:Int))) (Arx rfl rfl cv fun fq cw=>Av (iV (Fm f.marks (m.marks.length:Int))) (l_v (Dg rfl rfl) (l_k cw (Bf (t:=Fm f.marks (m.marks.length:Int) != 0) rfl (fun a3=>?_) (fun a3=>?_)))))
  ·have a4:=Ls a3
   refine w_q rfl rfl fun fr cx=>Av (iV (Fm f.marks (m.marks.length:Int))) (Au (iV (Fm f.marks (m.marks.length:Int))) (l_k cx (Aj (Bxj (Bxn B T)) (Aq (y (rT (iV (Fm f.marks (m.marks.length:Int))) ?_))))))
   have hi:Cl i (Mk m f.name)=none:=Ep fun j hj=>p52_1 j (by omega)
   have hf:fieldAt m i=Fm f.marks ((m.marks.length:Int)):=by simp[fieldAt,R,hi,u,g,l,n,H,O,K,P,a7,W,aj,a3,d,e,F,I,N,af,a4]
   have hF:Ew m=Fm f.marks ((m.marks.length:Int)):=by rw[Ew,if_neg (by omega),Db p26_1 (by omega) hf a4]
   rw[Cf,Gr d,Gr e,hF,Ry a4]
  have a4:=Jh a3
  refine Al (kk cc ?_)
  refine Ag rfl rfl (l_v (Ah (v:=iV i) h52_5) (l_v (Cw (((i+1):Nat):Int)) (Au (iV ((i+1):Nat)) (Bj (Bxj T) (Ac ?_)))))
  refine⟨_,?_,((i+1)),rfl,rfl,rfl,rfl,h52_1,rfl,(by omega),(Eg p26_1 (by
  have hi:Cl i (Mk m f.name)=none:=Ep fun j hj=>p52_1 j (by omega)
  simp[fieldAt,R,hi,u,g,l,n,H,O,K,P,a7,W,aj,a3,d,e,F,I,N,af,a4])),trivial⟩
  omega
 have I:=lZ0 n
 refine Bx (kk c8 ?_)
 refine Asb rfl rfl fun fs ft cy cz=>Arw (Ba Market.f_sales Btt rfl Qn w h26_1) fun hz e2=>Arw (Ax Qn rfl e2) fun i0 b7=>?_
 have fu:=Bxo b7
 refine l_v (Ci (el:=54) Buf rfl b7) (l_v (Gl rfl rfl) (l_k cz (Bf (t:=decide ((m.sales.length:Int)>8)) rfl (fun C=>?_) (fun C=>?_))))
 ·have ad:=lZ1 C
  refine w_q rfl rfl fun e8 bd=>Au (iV 2) (l_k bd (Aj (Bxj B) (Aq (y (rT (iV 2) ?_)))))
  have hF:Ew m=0:=by rw[Ew,if_neg (by omega),Fb fun j hj=>p26_1 j (by omega)]
  rw[Cf,Gr d,Gr e,Gr hF,Jc,if_pos (by omega)]
 have ad:=lZ0 C
 refine Al (kk cy ?_)
 refine Asb rfl rfl fun e9 ea be bf=>Au (iV 0) (l_k bf (Ao (Cc (fun mm ee dd ρ' σ'=>∃(s:Nat),(m.sales.length-s)=mm∧[]=dd∧b9=ρ'∧σ=σ'∧ee 1=pV k2∧ee 9=iV s∧(s≤m.sales.length)∧(∀j,j<s→Jb m j=0)∧True) (m:=_) ⟨0,rfl,rfl,rfl,rfl,h26_1,rfl,Gn _,fun j h=>absurd h (Sg _),trivial⟩ ?_)))
 rintro m105 e105 _ _ _ ⟨s,rfl,rfl,rfl,rfl,h105_1,h105_9,p105_0,p105_1,_⟩
 refine Asb rfl rfl fun eb ec bg bh=>l_v (Ah (v:=iV s) h105_9) (Arw (Ba Market.f_sales Btt rfl Qn w h105_1) fun gj d6=>Arw (Ax Qn rfl d6) fun gk an=>?_)
 have fv:=Bxo an
 refine l_v (Ci (el:=54) Buf rfl an) (l_v (Da rfl rfl) (l_k bh (Bf (t:=decide ((s:Int)<(m.sales.length:Int))) rfl (fun D=>?_) (fun D=>?_))))
 ·have ae:=lZ1 D
  refine Al (kk bg ?_)
  refine Ai fun ef bj=>Ao (w_q rfl rfl fun eg bk=>Arw (Ba Market.f_sales Btt rfl Qn w h105_1) fun gl d7=>Arw (Ax Qn rfl d7) fun gm d8=>l_v (Ah (v:=iV s) h105_9) ?_)
  obtain⟨x,Y⟩:=Ed (xs:=m.sales) (i:=s) (by omega)
  refine Arw (Ch s Buf Up rfl d8 (q:=(s:Int)) rfl rfl Y) fun gn d9=>Arw (Ax Up rfl d9) fun e3 ao=>Arv (Ct Agb fun bl=>?_)
  refine Cx rfl (Dv (v:=e3) (a:=x) (c:=Akd) Up rfl rfl ao rfl ?_)
  refine Bb (a:=x) ao fun e5 a0 a1=>?_
  replace w:=At.mono a0 w
  refine Ary rfl rfl bk fun eh ei bm bn=>Arw (Ba Sale.f_grams Buh rfl ty3 a1) fun gp ap=>?_
  have⟨fw,fx⟩:=At.rng ap
  refine l_v (Bc ty3 rfl ap) (Arv (Bw Beo Bwk ?_))
  refine l_v (Iy rfl) (l_k bn (Bf (t:=!(inR x.grams 0 1000000)) rfl (fun E=>?_) (fun E=>?_)))
  ·have ah:=not_eq_t E
   have d0:=Vw.1 ah
   refine w_q rfl rfl fun ej bo=>Au (iV 1) (l_k bo (Aj (Bxj (Bxn B a0)) (Aq (y (rT (iV 1) ?_)))))
   have hF:Ew m=0:=by rw[Ew,if_neg (by omega),Fb fun j hj=>p26_1 j (by omega)]
   have hf:Jb m s=1:=by simp[Jb,Y,u,g,l,n,C,D,E,ah,d,e,F,I,ad,ae,d0]
   rw[Cf,Gr d,Gr e,Gr hF,Jc,if_neg (by omega),Db p105_1 (by omega) hf (by omega)]
  have L:=not_eq_f E
  have d1:=Fz.1 L
  refine Al (kk bm ?_)
  refine Asb rfl rfl fun ek em bp bq=>Arw (Ba Sale.f_sellers Buh rfl Vh a1) fun gr dc=>Arw (Ax Vh rfl dc) fun gs aq=>?_
  have fy:=Bxo aq
  refine l_v (Ci (el:=3) Buk rfl aq) (l_v (Ek rfl rfl) (l_k bq (Bf (t:=(x.sellers.length:Int)==0) rfl (fun G=>?_) (fun G=>?_))))
  ·have am:=Jr G
   refine w_q rfl rfl fun en br=>Au (iV 2) (l_k br (Aj (Bxj (Bxn B a0)) (Aq (y (rT (iV 2) ?_)))))
   have hF:Ew m=0:=by rw[Ew,if_neg (by omega),Fb fun j hj=>p26_1 j (by omega)]
   have hf:Jb m s=2:=by simp[Jb,Y,u,g,l,n,C,D,E,L,G,d,e,F,I,ad,ae,d1,am]
   rw[Cf,Gr d,Gr e,Gr hF,Jc,if_neg (by omega),Db p105_1 (by omega) hf (by omega)]
  have am:=Jq G
  refine Al (kk bp ?_)
  refine w_q rfl rfl fun eo bt=>Au (iV 0) (l_k bt (Ao (Cc (fun mm ee dd ρ' σ'=>∃(q:Nat),(x.sellers.length-q)=mm∧[]=dd∧e5=ρ'∧σ=σ'∧ee 1=pV k2∧ee 9=iV s∧ee 10=pV bl∧ee 11=iV q∧(q≤x.sellers.length)∧(∀j,j<q→Gt m x j=0)∧True) (m:=_) ⟨0,rfl,rfl,rfl,rfl,h105_1,h105_9,rfl,rfl,Gn _,fun j h=>absurd h (Sg _),trivial⟩ ?_)))
  rintro m137 e137 _ _ _ ⟨q,rfl,rfl,rfl,rfl,h137_1,h137_9,h137_10,h137_11,p137_0,p137_1,_⟩
  refine Asb rfl rfl fun ep eq bu bv=>l_v (Ah (v:=iV q) h137_11) (Arw (Ba Sale.f_sellers Buh rfl Vh a1 h137_10) fun gt de=>Arw (Ax Vh rfl de) fun gu ar=>?_)
  have fz:=Bxo ar
  refine l_v (Ci (el:=3) Buk rfl ar) (l_v (Da rfl rfl) (l_k bv (Bf (t:=decide ((q:Int)<(x.sellers.length:Int))) rfl (fun J=>?_) (fun J=>?_))))
  ·have d2:=lZ1 J
   refine Al (kk bu ?_)
   refine Ai fun es ak=>Ao (Ai fun et bz=>Ai fun eu c0=>Pr (De 0 (zT 1 10) rfl (Ba Sale.f_sellers Buh rfl Vh a1 h137_10) fun gv df=>De 1 (zT 2 9) rfl (Ax Vh rfl df) fun gw dh=>Bu 2 (zT 3 8) rfl (Ah (v:=iV q) h137_11) ?_))
   obtain⟨a9,Z⟩:=Ed (xs:=x.sellers) (i:=q) (by omega)
   refine De 3 (zT 4 7) rfl (Ch q Buk ty3 rfl dh (q:=(q:Int)) rfl rfl Z) fun gx au=>?_
   have⟨g0,g1⟩:=At.rng au
   refine Bu 4 (zT 5 6) rfl (Bc ty3 rfl au) (Ho 5 (zT 6 5) rfl (Ba Market.f_houses Btt rfl Hw w h137_1) fun gy di=>Ho 6 (zT 7 4) rfl (Ax Hw rfl di) fun gz av=>?_)
   have g2:=Bxo av
   refine Cj 7 (zT 8 3) rfl (Ci (el:=9) Bts rfl av) (Cj 8 (zT 9 2) rfl (Ou rfl rfl (z:=(m.houses.length:Int)-1) wrE) (Ww 9 (zT 10 1) rfl (Bm Beo Bwk rfl rfl ⟨rfl,rfl,rfl,trivial⟩ ⟨Bxm,?_⟩)))
   refine Cj 10 (zT 11 0) rfl (Iy rfl) (Ec rfl (kk c0 ?_))
   refine Bf (t:=!(inR a9 0 ((m.houses.length:Int)-1))) rfl (fun M=>?_) (fun M=>?_)
   ·have aa:=not_eq_t M
    have gh:=Vw.1 aa
    refine w_q rfl rfl fun ev c1=>Au (iV 6) (l_k c1 (Aj (Bxj (Bxn B a0)) (Aq (y (rT (iV 6) ?_)))))
    have hF:Ew m=0:=by rw[Ew,if_neg (by omega),Fb fun j hj=>p26_1 j (by omega)]
    have hq:Gt m x q=6:=by
     simp[Gt,Z,u,g,l,n,C,D,E,L,G,J,M,aa]
    have hf:Jb m s=6:=by simp only[Jb,Y,u,g,l,n,C,D,E,L,G,J,M,aa,if_true];rw[if_neg (by omega),Db p137_1 (by omega) hq (by omega)]
    rw[Cf,Gr d,Gr e,Gr hF,Jc,if_neg (by omega),Db p105_1 (by omega) hf (by omega)]
   have a2:=not_eq_f M
   have gi:=Fz.1 a2
   refine Al (kk bz ?_)
   refine Ai fun ew al=>Pr (Cj 0 (zT 1 15) rfl (Ah (v:=iV q) h137_11) (Cj 1 (zT 2 14) rfl (Gl rfl rfl) (Cj 2 (zT 3 13) rfl (Ah (v:=.bool (decide ((q:Int)>0))) rfl) (Akk (decide ((q:Int)>0)) (fun b=>?_) (fun b=>?_)))))
   ·have d3:=lZ1 b
    refine Fp 3 (zT 4 12) rfl Bxm (gY rfl b) (Ba Sale.f_sellers Buh rfl Vh a1 h137_10) fun h1 dj=>Fp 4 (zT 5 11) rfl Bxm (gY rfl b) (Ax Vh rfl dj) fun h2 dk=>Aej 5 (zT 6 10) rfl Bxm (gY rfl b) (Ah (v:=iV q) h137_11) (Fp 6 (zT 7 9) rfl Bxm (gY rfl b) (Ch q Buk ty3 rfl dk (q:=(q:Int)) rfl rfl Z) fun h3 aw=>?_)
    have⟨g3,g4⟩:=At.rng aw
    refine Aej 7 (zT 8 8) rfl Bxm (gY rfl b) (Bc ty3 rfl aw) (Fp 8 (zT 9 7) rfl Bxm (gY rfl b) (Ba Sale.f_sellers Buh rfl Vh a1 h137_10) fun h4 dl=>Fp 9 (zT 10 6) rfl Bxm (gY rfl b) (Ax Vh rfl dl) fun h5 dm=>Qa 10 (zT 11 5) rfl Bxm (gY rfl b) (Ah (v:=iV q) h137_11) (Qa 11 (zT 12 4) rfl Bxm (gY rfl b) (Ou rfl rfl (z:=(q:Int)-1) wrE) ?_))
    obtain⟨a6,ab⟩:=Ed (xs:=x.sellers) (i:=(((q:Int)-1)).toNat) (by omega)
    refine Qc 12 (zT 13 3) rfl Bxm (gY rfl b) (Ch ((((q:Int)-1)).toNat) Buk ty3 rfl dm (q:=(q:Int)-1) rfl (by omega) ab) fun h6 ax=>?_
    have⟨g5,g6⟩:=At.rng ax
    refine Qa 13 (zT 14 2) rfl Bxm (gY rfl b) (Bc ty3 rfl ax) (Qa 14 (zT 15 1) rfl Bxm (gY rfl b) (Uz rfl rfl) (Cj 15 (zT 16 0) rfl (Bt rfl b (v:=.bool (decide (a9≤a6))) rfl) (Ec rfl (kk al ?_))))
    refine Bf (t:=decide (a9≤a6)) rfl (fun U=>?_) (fun U=>?_)
    ·have d4:=lZ1 U
     refine w_q rfl rfl fun ez c4=>Au (iV 7) (l_k c4 (Aj (Bxj (Bxn B a0)) (Aq (y (rT (iV 7) ?_)))))
     have hF:Ew m=0:=by rw[Ew,if_neg (by omega),Fb fun j hj=>p26_1 j (by omega)]
     have hq:Gt m x q=7:=by
      have hp:x.sellers[q-1]?=some a6:=by rw[←ab];congr 1;omega
      have h0:0<q:=by omega
      simp only[Gt,Z,if_pos h0,hp,u,g,l,n,C,D,E,L,G,J,M,a2,b,U,if_true];first|rw[if_pos (by omega)]|rw[if_neg (by omega)]
     have hf:Jb m s=7:=by simp only[Jb,Y,u,g,l,n,C,D,E,L,G,J,M,a2,b,U,if_true];rw[if_neg (by omega),Db p137_1 (by omega) hq (by omega)]
     rw[Cf,Gr d,Gr e,Gr hF,Jc,if_neg (by omega),Db p105_1 (by omega) hf (by omega)]
    have d4:=lZ0 U
    refine Al (kk ak ?_)
    refine Ag rfl rfl (l_v (Ah (v:=iV q) h137_11) (l_v (Cw (((q+1):Nat):Int)) (Au (iV ((q+1):Nat)) (Ac ?_))))
    refine⟨_,?_,((q+1)),rfl,rfl,rfl,rfl,h137_1,h137_9,h137_10,rfl,(by omega),(Eg p137_1 (by
 have hp:x.sellers[q-1]?=some a6:=by rw[←ab];congr 1;omega
 have h0:0<q:=by omega
 simp only[Gt,Z,if_pos h0,hp,u,g,l,n,C,D,E,L,G,J,M,a2,b,U,if_true];first|rw[if_pos (by omega)]|rw[if_neg (by omega)])),trivial⟩
    omega
   have d3:=lZ0 b
   refine Wz 3 (zT 4 12) rfl Bxm (gN rfl b) (Wz 4 (zT 5 11) rfl Bxm (gN rfl b) (Wz 5 (zT 6 10) rfl Bxm (gN rfl b) (Wz 6 (zT 7 9) rfl Bxm (gN rfl b) (Wz 7 (zT 8 8) rfl Bxm (gN rfl b) (Wz 8 (zT 9 7) rfl Bxm (gN rfl b) (Wz 9 (zT 10 6) rfl Bxm (gN rfl b) (Ye 10 (zT 11 5) rfl Bxm (gN rfl b) (Ye 11 (zT 12 4) rfl Bxm (gN rfl b) (Ye 12 (zT 13 3) rfl Bxm (gN rfl b) (Ye 13 (zT 14 2) rfl Bxm (gN rfl b) (Ye 14 (zT 15 1) rfl Bxm (gN rfl b) (Cj 15 (zT 16 0) rfl (Bn rfl b (v:=bF) rfl) (Ec rfl (kk al ?_))))))))))))))
   refine Cg rfl rfl (Al (kk ak ?_))
   refine Ag rfl rfl (l_v (Ah (v:=iV q) h137_11) (l_v (Cw (((q+1):Nat):Int)) (Au (iV ((q+1):Nat)) (Ac ?_))))
   refine⟨_,?_,((q+1)),rfl,rfl,rfl,rfl,h137_1,h137_9,h137_10,rfl,(by omega),(Eg p137_1 (by
 have h0:¬0<q:=by omega
 simp[Gt,Z,if_neg h0,u,g,l,n,C,D,E,L,G,J,M,a2,b])),trivial⟩
   omega
  have d2:=lZ0 J
  refine Bx (kk bj ?_)
  refine Ag rfl rfl (l_v (Ah (v:=iV s) h137_9) (l_v (Cw (((s+1):Nat):Int)) (Au (iV ((s+1):Nat)) (Bj (Bxj a0) (Ac ?_)))))
  refine⟨_,?_,((s+1)),rfl,rfl,rfl,rfl,h137_1,rfl,(by omega),(Eg p105_1 (by
  simp only[Jb,Y,u,g,l,n,C,D,E,L,G,J,if_true];rw[if_neg (by omega),Fb fun j hj=>p137_1 j (by omega)])),trivial⟩
  omega
 have ae:=lZ0 D
 refine Bx (kk be ?_)
 refine w_q rfl rfl fun f0 c5=>Au (iV 0) (l_k c5 (Aj (Bxj B) (Aq (y (rT (iV 0) ?_)))))
 have hF:Ew m=0:=by rw[Ew,if_neg (by omega),Fb fun j hj=>p26_1 j (by omega)]
 rw[Cf,Gr d,Gr e,Gr hF,Jc,if_neg (by omega),Fb fun j hj=>p105_1 j (by omega)]
end
section
open Go
variable{mn:Bool}{X:Frame→List Frame→Ro→Own→Cy→Prop}{ρ:Ro}{σ:Own}
theorem Agv{a b:List Int}{va vb:Value}(ra:Val ρ va a)(rb:Val ρ vb b):CallsH (CX mn X) 27 #[va,vb] ρ σ (rP ρ σ (.bool (decide (a=b)))):=by
 refine Bq 26 [4] Tryz.func27 rfl fun Q k a5=>w_q rfl rfl fun M y=>Au bF (Ary rfl rfl y fun T W E H=>Av va ?_)
 have g4:=Bxo ra
 refine l_v (Ci (el:=3) Buk rfl ra) (Av vb ?_)
 have g5:=Bxo rb
 refine l_v (Ci (el:=3) Buk rfl rb) (l_v (Dg rfl rfl) (l_k H (Bf (t:=(a.length:Int) != (b.length:Int)) rfl (fun f=>?_) (fun f=>?_))))
 ·have n:=Ls f
  refine w_q rfl rfl fun Y I=>Au bF (l_k I (Aq (k (rT bF ?_))))
  rw[Hn (fun h=>n (by rw[h]))]
 have n:=Jh f
 refine Al (kk E ?_)
 refine Asb rfl rfl fun Z K9 J K=>Au (iV 0) (l_k K (Ao (Cc (fun mm ee dd ρ' σ'=>∃(i:Nat),(a.length-i)=mm∧[]=dd∧ρ=ρ'∧σ=σ'∧ee 0=va∧ee 1=vb∧ee 5=iV i∧(i≤a.length)∧(∀j,j<i→a[j]?=b[j]?)∧True) (m:=_) ⟨0,rfl,rfl,rfl,rfl,rfl,rfl,rfl,Gn _,fun j h=>absurd h (Sg _),trivial⟩ ?_)))
 rintro m10 e10 _ _ _ ⟨i,rfl,rfl,rfl,rfl,h10_0,h10_1,h10_5,p10_0,p10_1,_⟩
 refine Asb rfl rfl fun N O z B=>l_v (Ah (v:=iV i) h10_5) (l_v (Ah (v:=va) h10_0) ?_)
 have a0:=Bxo ra
 refine l_v (Ci (el:=3) Buk rfl ra) (l_v (Da rfl rfl) (l_k B (Bf (t:=decide ((i:Int)<(a.length:Int))) rfl (fun d=>?_) (fun d=>?_))))
 ·have L:=lZ1 d
  refine Al (kk z ?_)
  refine Ai fun P C=>Ao (Ai fun R D=>Pr (Bu 0 Anu rfl (Ah (v:=va) h10_0) (Bu 1 Anv rfl (Ah (v:=iV i) h10_5) ?_)))
  obtain⟨w,g⟩:=Ed (xs:=a) (i:=i) (by omega)
  refine De 2 Aoh rfl (Ch i Buk ty3 rfl ra (q:=(i:Int)) rfl rfl g) fun a6 p=>?_
  have⟨a1,a2⟩:=At.rng p
  refine Bu 3 Aoi rfl (Bc ty3 rfl p) (Bu 4 Aoj rfl (Ah (v:=vb) h10_1) (Cj 5 Anw rfl (Ah (v:=iV i) h10_5) ?_))
  obtain⟨x,c⟩:=Ed (xs:=b) (i:=i) (by omega)
  refine Ho 6 Anx rfl (Ch i Buk ty3 rfl rb (q:=(i:Int)) rfl rfl c) fun a7 u=>?_
  have⟨a3,a4⟩:=At.rng u
  refine Cj 7 Anz rfl (Bc ty3 rfl u) (Cj 8 Aoa rfl (Dg rfl rfl) (Ec rfl (kk D ?_)))
  refine Bf (t:=w != x) rfl (fun e=>?_) (fun e=>?_)
  ·have l:=Ls e
   refine w_q rfl rfl fun U F=>Au bF (l_k F (Aq (k (rT bF ?_))))
   rw[Hn (fun h=>by subst h;rw[g]at c;injection c with h1;exact l h1)]
  have l:=Jh e
  refine Al (kk C ?_)
  refine Ag rfl rfl (l_v (Ah (v:=iV i) h10_5) (l_v (Cw (((i+1):Nat):Int)) (Au (iV ((i+1):Nat)) (Ac ?_))))
  refine⟨_,?_,(i+1),rfl,rfl,rfl,rfl,h10_0,h10_1,rfl,(by omega),(Eg p10_1 (by rw[g,c,l])),trivial⟩
  omega
 have L:=lZ0 d
 refine Bx (kk J ?_)
 refine w_q rfl rfl fun V G=>Au bT (l_k G (Aq (k (rT bT ?_))))
 rw[Hx (Aif (by omega) fun j hj=>p10_1 j (by omega))]
theorem Ol{a b:List Int}{va vb:Value}(ra:Val ρ va a)(rb:Val ρ vb b):CallsH (CX mn X) 25 #[va,vb] ρ σ (rP ρ σ (.bool (decide (a=b)))):=by
 refine Bq 26 [4] Tryz.func25 rfl fun Q k a5=>w_q rfl rfl fun M y=>Au bF (Ary rfl rfl y fun T W E H=>Av va ?_)
 have g4:=Bxo ra
 refine l_v (Ci (el:=75) Bui rfl ra) (Av vb ?_)
 have g5:=Bxo rb
 refine l_v (Ci (el:=75) Bui rfl rb) (l_v (Dg rfl rfl) (l_k H (Bf (t:=(a.length:Int) != (b.length:Int)) rfl (fun f=>?_) (fun f=>?_))))
 ·have n:=Ls f
  refine w_q rfl rfl fun Y I=>Au bF (l_k I (Aq (k (rT bF ?_))))
  rw[Hn (fun h=>n (by rw[h]))]
 have n:=Jh f
 refine Al (kk E ?_)
 refine Asb rfl rfl fun Z K9 J K=>Au (iV 0) (l_k K (Ao (Cc (fun mm ee dd ρ' σ'=>∃(i:Nat),(a.length-i)=mm∧[]=dd∧ρ=ρ'∧σ=σ'∧ee 0=va∧ee 1=vb∧ee 5=iV i∧(i≤a.length)∧(∀j,j<i→a[j]?=b[j]?)∧True) (m:=_) ⟨0,rfl,rfl,rfl,rfl,rfl,rfl,rfl,Gn _,fun j h=>absurd h (Sg _),trivial⟩ ?_)))
 rintro m10 e10 _ _ _ ⟨i,rfl,rfl,rfl,rfl,h10_0,h10_1,h10_5,p10_0,p10_1,_⟩
 refine Asb rfl rfl fun N O z B=>l_v (Ah (v:=iV i) h10_5) (l_v (Ah (v:=va) h10_0) ?_)
 have a0:=Bxo ra
 refine l_v (Ci (el:=75) Bui rfl ra) (l_v (Da rfl rfl) (l_k B (Bf (t:=decide ((i:Int)<(a.length:Int))) rfl (fun d=>?_) (fun d=>?_))))
 ·have L:=lZ1 d
  refine Al (kk z ?_)
  refine Ai fun P C=>Ao (Ai fun R D=>Pr (Bu 0 Anu rfl (Ah (v:=va) h10_0) (Bu 1 Anv rfl (Ah (v:=iV i) h10_5) ?_)))
  obtain⟨w,g⟩:=Ed (xs:=a) (i:=i) (by omega)
  refine De 2 Aoh rfl (Ch i Bui Pi rfl ra (q:=(i:Int)) rfl rfl g) fun a6 p=>?_
  have⟨a1,a2⟩:=At.rng p
  refine Bu 3 Aoi rfl (Bc Pi rfl p) (Bu 4 Aoj rfl (Ah (v:=vb) h10_1) (Cj 5 Anw rfl (Ah (v:=iV i) h10_5) ?_))
  obtain⟨x,c⟩:=Ed (xs:=b) (i:=i) (by omega)
  refine Ho 6 Anx rfl (Ch i Bui Pi rfl rb (q:=(i:Int)) rfl rfl c) fun a7 u=>?_
  have⟨a3,a4⟩:=At.rng u
  refine Cj 7 Anz rfl (Bc Pi rfl u) (Cj 8 Aoa rfl (Dg rfl rfl) (Ec rfl (kk D ?_)))
  refine Bf (t:=w != x) rfl (fun e=>?_) (fun e=>?_)
  ·have l:=Ls e
   refine w_q rfl rfl fun U F=>Au bF (l_k F (Aq (k (rT bF ?_))))
   rw[Hn (fun h=>by subst h;rw[g]at c;injection c with h1;exact l h1)]
  have l:=Jh e
  refine Al (kk C ?_)
  refine Ag rfl rfl (l_v (Ah (v:=iV i) h10_5) (l_v (Cw (((i+1):Nat):Int)) (Au (iV ((i+1):Nat)) (Ac ?_))))
  refine⟨_,?_,(i+1),rfl,rfl,rfl,rfl,h10_0,h10_1,rfl,(by omega),(Eg p10_1 (by rw[g,c,l])),trivial⟩
  omega
 have L:=lZ0 d
 refine Bx (kk J ?_)
 refine w_q rfl rfl fun V G=>Au bT (l_k G (Aq (k (rT bT ?_))))
 rw[Hx (Aif (by omega) fun j hj=>p10_1 j (by omega))]
end
section
open Go
variable{mn:Bool}{X:Frame→List Frame→Ro→Own→Cy→Prop}{ρ:Ro}{σ:Own}
theorem Ya{l:List UInt8}{vl f:Value}{p:UInt8→Bool}(rl:Val ρ vl l)(hf:Su f p):CallsH (CX mn X) 151 #[vl,f] ρ σ (rP ρ σ (iV (Oi l p))):=by
 refine Bq 19 [4] Tryz.func151 rfl fun Q g V=>w_q rfl rfl fun I k=>Au (iV 0) (Ary rfl rfl k fun N O B C=>Av vl ?_)
 have U:=Bxo rl
 refine l_v (Ci (el:=5) Btu rfl rl) (Av (iV 0) (l_k C (Ao (Cc (fun mm ee dd ρ' σ'=>∃(i:Nat),(l.length-i)=mm∧[]=dd∧ρ=ρ'∧σ=σ'∧ee 0=vl∧ee 1=f∧ee 7=(iV (l.length:Int))∧ee 8=iV i∧(i≤l.length)∧(∀j,j<i→atP l p j=false)∧True) (m:=_) ⟨0,rfl,rfl,rfl,rfl,rfl,rfl,rfl,rfl,Gn _,fun j h=>absurd h (Sg _),trivial⟩ ?_))))
 rintro m5 e5 _ _ _ ⟨i,rfl,rfl,rfl,rfl,h5_0,h5_1,h5_7,h5_8,p5_0,p5_1,_⟩
 refine w_q rfl rfl fun P D=>l_v (Da h5_8 h5_7) (Asa D fun R E=>Bf (t:=decide ((i:Int)<(l.length:Int))) rfl (fun b=>?_) (fun b=>?_))
 ·have G:=lZ1 b
  refine Al (kk E ?_)
  refine Ai fun T F=>Ao (w_q rfl rfl fun J u=>l_v (Ah (v:=iV i) h5_8) (Au (iV i) (Arx rfl rfl u fun K w=>l_v (Ah (v:=f) h5_1) (l_v (Ah (v:=vl) h5_0) (Av (iV i) ?_)))))
  obtain⟨c,e⟩:=Ed (xs:=l) (i:=i) (by omega)
  refine Arw (Ch i Btu ty5 rfl rl (q:=(i:Int)) rfl rfl e) fun W H=>l_v (Aaf ty5 rfl H) (Arv (Ajp (pr:=p) (a:=c) (v:=.int .u8 (c.toNat:Int)) hf rfl rfl (Uq.2 rfl) ?_))
  refine l_k w (Bf (t:=p c) rfl (fun d=>?_) (fun d=>?_))
  ·refine w_q rfl rfl fun L x=>Av (iV i) (Au (iV i) (l_k x (Aq (g (rT (iV i) ?_)))))
   have hi:=Fh (n:=l.length) p5_1 (by omega) (show atP l p i=true by simp only[atP,e,b,d])
   simp only[Oi,hi]
  refine Al (kk F ?_)
  refine Ag rfl rfl (l_v (Br h5_8 rfl (z:=(((i+1):Nat):Int)) wrE) (Av (iV ((i+1):Nat)) (Ac ?_)))
  refine⟨_,?_,(i+1),rfl,rfl,rfl,rfl,h5_0,h5_1,h5_7,rfl,(by omega),(Eg p5_1 (by simp only[atP,e,b,d])),trivial⟩
  omega
 have G:=lZ0 b
 refine Bx (kk B ?_)
 refine w_q rfl rfl fun M y=>Au (iV (-1)) (l_k y (Aq (g (rT (iV (-1)) ?_))))
 have hn:=Ep (n:=l.length) fun j hj=>p5_1 j (by omega)
 simp only[Oi,hn]
theorem Yb{l:List Span}{vl f:Value}{p:Span→Bool}(rl:Val ρ vl l)(hf:Su f p):CallsH (CX mn X) 150 #[vl,f] ρ σ (rP ρ σ (iV (Oi l p))):=by
 refine Bq 19 [4] Tryz.func150 rfl fun Q g Y=>w_q rfl rfl fun K k=>Au (iV 0) (Ary rfl rfl k fun P R B C=>Av vl ?_)
 have W:=Bxo rl
 refine l_v (Ci (el:=48) Bug rfl rl) (Av (iV 0) (l_k C (Ao (Cc (fun mm ee dd ρ' σ'=>∃(i:Nat),(l.length-i)=mm∧[]=dd∧ρ=ρ'∧σ=σ'∧ee 0=vl∧ee 1=f∧ee 7=(iV (l.length:Int))∧ee 8=iV i∧(i≤l.length)∧(∀j,j<i→atP l p j=false)∧True) (m:=_) ⟨0,rfl,rfl,rfl,rfl,rfl,rfl,rfl,rfl,Gn _,fun j h=>absurd h (Sg _),trivial⟩ ?_))))
 rintro m5 e5 _ _ _ ⟨i,rfl,rfl,rfl,rfl,h5_0,h5_1,h5_7,h5_8,p5_0,p5_1,_⟩
 refine w_q rfl rfl fun T D=>l_v (Da h5_8 h5_7) (Asa D fun U E=>Bf (t:=decide ((i:Int)<(l.length:Int))) rfl (fun b=>?_) (fun b=>?_))
 ·have G:=lZ1 b
  refine Al (kk E ?_)
  refine Ai fun V F=>Ao (w_q rfl rfl fun L u=>l_v (Ah (v:=iV i) h5_8) (Au (iV i) (Arx rfl rfl u fun M w=>l_v (Ah (v:=f) h5_1) (l_v (Ah (v:=vl) h5_0) (Av (iV i) ?_)))))
  obtain⟨e,d⟩:=Ed (xs:=l) (i:=i) (by omega)
  refine Arw (Ch i Bug Mx rfl rl (q:=(i:Int)) rfl rfl d) fun Z H=>Arw (Ax Mx rfl H) fun J I=>Arv (Ajp (pr:=p) (a:=e) (v:=J) hf rfl rfl I ?_)
  refine l_k w (Bf (t:=p e) rfl (fun c=>?_) (fun c=>?_))
  ·refine w_q rfl rfl fun N x=>Av (iV i) (Au (iV i) (l_k x (Aq (g (rT (iV i) ?_)))))
   have hi:=Fh (n:=l.length) p5_1 (by omega) (show atP l p i=true by simp only[atP,d,b,c])
   simp only[Oi,hi]
  refine Al (kk F ?_)
  refine Ag rfl rfl (l_v (Br h5_8 rfl (z:=(((i+1):Nat):Int)) wrE) (Av (iV ((i+1):Nat)) (Ac ?_)))
  refine⟨_,?_,(i+1),rfl,rfl,rfl,rfl,h5_0,h5_1,h5_7,rfl,(by omega),(Eg p5_1 (by simp only[atP,d,b,c])),trivial⟩
  omega
 have G:=lZ0 b
 refine Bx (kk B ?_)
 refine w_q rfl rfl fun O y=>Au (iV (-1)) (l_k y (Aq (g (rT (iV (-1)) ?_))))
 have hn:=Ep (n:=l.length) fun j hj=>p5_1 j (by omega)
 simp only[Oi,hn]
theorem Ta{l:List UInt8}{vl f:Value}{p:UInt8→Bool}(rl:Val ρ vl l)(hf:Su f p):CallsH (CX mn X) 134 #[vl,f] ρ σ (rP ρ σ (.bool (l.any p))):=by
 refine Bq 9 [4] Tryz.func134 rfl fun Q a g=>w_q rfl rfl fun d b=>Au bF (Arx rfl rfl b fun e c=>Av vl (Av f (Arv (Bw (Ya rl hf) Tryz.func151 ?_))))
 refine l_v (Uy rfl rfl) (Au (.bool (decide (Oi l p≥0))) (l_k c (Aq (a (rT (.bool (decide (Oi l p≥0))) ?_)))))
 rw[Yq]
theorem Tb{l:List Span}{vl f:Value}{p:Span→Bool}(rl:Val ρ vl l)(hf:Su f p):CallsH (CX mn X) 132 #[vl,f] ρ σ (rP ρ σ (.bool (l.any p))):=by
 refine Bq 9 [4] Tryz.func132 rfl fun Q a g=>w_q rfl rfl fun d b=>Au bF (Arx rfl rfl b fun e c=>Av vl (Av f (Arv (Bw (Yb rl hf) Tryz.func150 ?_))))
 refine l_v (Uy rfl rfl) (Au (.bool (decide (Oi l p≥0))) (l_k c (Aq (a (rT (.bool (decide (Oi l p≥0))) ?_)))))
 rw[Yq]
theorem Ahe{c:UInt8} :CallsH (CX mn X) 135 #[.int .u8 (c.toNat:Int)] ρ σ (rP ρ σ (.bool (Ov (c.toNat:Int)))):=by
 refine Bq 21 [2] Tryz.func135 rfl fun Q h w=>w_q rfl rfl fun t j=>Au bF (Arx rfl rfl j fun u i=>Av (.int .u8 (c.toNat:Int)) (l_v (Da rfl rfl) (Av (.bool (decide ((c.toNat:Int)<97))) (Cn (decide ((c.toNat:Int)<97)) (fun b=>?_) (fun b=>?_)))))
 ·have k:=lZ1 b
  refine Ap (gN rfl b) (Ap (gN rfl b) (l_v (Bt rfl b (v:=bT) rfl) (Av bT (l_M (.int .u8 (c.toNat:Int)) (gY rfl rfl) rfl (Aa (gY rfl rfl) (Da rfl rfl) (l_M (.bool (decide ((c.toNat:Int)<48))) (gY rfl rfl) rfl (Cn (decide ((c.toNat:Int)<48)) (fun d=>?_) (fun d=>?_))))))))
  ·have l:=lZ1 d
   refine Ap (gN rfl d) (Ap (gN rfl d) (Aa (gY rfl rfl) (Bt rfl d (v:=bT) rfl) (l_v (Bt rfl rfl (v:=bT) rfl) (Av bT (l_M (.int .u8 (c.toNat:Int)) (gY rfl rfl) rfl (Aa (gY rfl rfl) (Dg rfl rfl) (l_v (Bt rfl rfl (v:=.bool ((c.toNat:Int) != 45)) rfl) (Au (.bool ((c.toNat:Int) != 45)) (l_k i (Aq (h (rT (.bool ((c.toNat:Int) != 45)) ?_))))))))))))
   simp only[Ov,b,d,Ii,Iv,Jt,Jm,Lb,Hz,Iz,Jw,Ix,Jo]
  have l:=lZ0 d
  refine l_M (.int .u8 (c.toNat:Int)) (gY rfl d) rfl (Aa (gY rfl d) (Gl rfl rfl) (Aa (gY rfl rfl) (Bn rfl d (v:=.bool (decide ((c.toNat:Int)>57))) rfl) (l_v (Bt rfl rfl (v:=.bool (decide ((c.toNat:Int)>57))) rfl) (Av (.bool (decide ((c.toNat:Int)>57))) (Cn (decide ((c.toNat:Int)>57)) (fun f=>?_) (fun f=>?_))))))
  ·have m:=lZ1 f
   refine l_M (.int .u8 (c.toNat:Int)) (gY rfl f) rfl (Aa (gY rfl f) (Dg rfl rfl) (l_v (Bt rfl f (v:=.bool ((c.toNat:Int) != 45)) rfl) (Au (.bool ((c.toNat:Int) != 45)) (l_k i (Aq (h (rT (.bool ((c.toNat:Int) != 45)) ?_)))))))
   simp only[Ov,b,d,f,Ii,Iv,Jt,Jm,Lb,Hz,Iz,Jw,Ix,Jo]
  have m:=lZ0 f
  refine Ap (gN rfl f) (Ap (gN rfl f) (l_v (Bn rfl f (v:=bF) rfl) (Au bF (l_k i (Aq (h (rT bF ?_)))))))
  simp only[Ov,b,d,f,Ii,Iv,Jt,Jm,Lb,Hz,Iz,Jw,Ix,Jo]
 have k:=lZ0 b
 refine l_M (.int .u8 (c.toNat:Int)) (gY rfl b) rfl (Aa (gY rfl b) (Gl rfl rfl) (l_v (Bn rfl b (v:=.bool (decide ((c.toNat:Int)>122))) rfl) (Av (.bool (decide ((c.toNat:Int)>122))) (Cn (decide ((c.toNat:Int)>122)) (fun a=>?_) (fun a=>?_)))))
 ·have n:=lZ1 a
  refine l_M (.int .u8 (c.toNat:Int)) (gY rfl a) rfl (Aa (gY rfl a) (Da rfl rfl) (l_M (.bool (decide ((c.toNat:Int)<48))) (gY rfl a) rfl (Cn (decide ((c.toNat:Int)<48)) (fun e=>?_) (fun e=>?_))))
  ·have p:=lZ1 e
   refine Ap (gN rfl e) (Ap (gN rfl e) (Aa (gY rfl a) (Bt rfl e (v:=bT) rfl) (l_v (Bt rfl a (v:=bT) rfl) (Av bT (l_M (.int .u8 (c.toNat:Int)) (gY rfl rfl) rfl (Aa (gY rfl rfl) (Dg rfl rfl) (l_v (Bt rfl rfl (v:=.bool ((c.toNat:Int) != 45)) rfl) (Au (.bool ((c.toNat:Int) != 45)) (l_k i (Aq (h (rT (.bool ((c.toNat:Int) != 45)) ?_))))))))))))
   simp only[Ov,b,a,e,Ii,Iv,Jt,Jm,Lb,Hz,Iz,Jw,Ix,Jo]
  have p:=lZ0 e
  refine l_M (.int .u8 (c.toNat:Int)) (gY rfl e) rfl (Aa (gY rfl e) (Gl rfl rfl) (Aa (gY rfl a) (Bn rfl e (v:=.bool (decide ((c.toNat:Int)>57))) rfl) (l_v (Bt rfl a (v:=.bool (decide ((c.toNat:Int)>57))) rfl) (Av (.bool (decide ((c.toNat:Int)>57))) (Cn (decide ((c.toNat:Int)>57)) (fun g=>?_) (fun g=>?_))))))
  ·have q:=lZ1 g
   refine l_M (.int .u8 (c.toNat:Int)) (gY rfl g) rfl (Aa (gY rfl g) (Dg rfl rfl) (l_v (Bt rfl g (v:=.bool ((c.toNat:Int) != 45)) rfl) (Au (.bool ((c.toNat:Int) != 45)) (l_k i (Aq (h (rT (.bool ((c.toNat:Int) != 45)) ?_)))))))
   simp only[Ov,b,a,e,g,Ii,Iv,Jt,Jm,Lb,Hz,Iz,Jw,Ix,Jo]
  have q:=lZ0 g
  refine Ap (gN rfl g) (Ap (gN rfl g) (l_v (Bn rfl g (v:=bF) rfl) (Au bF (l_k i (Aq (h (rT bF ?_)))))))
  simp only[Ov,b,a,e,g,Ii,Iv,Jt,Jm,Lb,Hz,Iz,Jw,Ix,Jo]
 have n:=lZ0 a
 refine Ap (gN rfl a) (Ap (gN rfl a) (Ap (gN rfl a) (Ap (Jf rfl rfl rfl) (Ap (Jf rfl rfl rfl) (Ap (gN rfl a) (l_v (Bn rfl a (v:=bF) rfl) (Av bF (Ap (gN rfl rfl) (Ap (gN rfl rfl) (l_v (Bn rfl rfl (v:=bF) rfl) (Au bF (l_k i (Aq (h (rT bF ?_)))))))))))))))
 simp only[Ov,b,a,Ii,Iv,Jt,Jm,Lb,Hz,Iz,Jw,Ix,Jo]
theorem Aks{s:ByteArray}(hs:s.size<2^60):CallsH (CX mn X) 112 #[.string s] ρ σ (rP ρ σ (.bool (Hg s))):=by
 refine Bq 21 [2] Tryz.func112 rfl fun Q h P=>w_q rfl rfl fun F n=>Au bF (Ary rfl rfl n fun J K y j=>Av (.string s) (l_v (Afz Btr (s:=s) rfl) (Arv (Bw Jl Bvv ?_))))
 refine l_v (Iy rfl) (Av (.bool (!(inR (s.size:Int) 1 14))) (Cn (!(inR (s.size:Int) 1 14)) (fun a=>?_) (fun a=>?_)))
 ·have k:=not_eq_t a
  have T:=Vw.1 k
  refine Ap (gN rfl a) (Ap (gN rfl a) (Ap (gN rfl a) (l_v (Bt rfl a (v:=bT) rfl) (Av bT (Ap (gN rfl rfl) (Ap (gN rfl rfl) (Ap (gN rfl rfl) (l_v (Bt rfl rfl (v:=bT) rfl) (l_k j (Co rfl rfl (w_q rfl rfl fun L z=>Au bF (l_k z (Aq (h (rT bF ?_)))))))))))))))
  simp only[Hg,Qb,a,k,Ii,Iv,Jt,Jm,Lb,Hz,Iz,Jw,Ix,Jo]
 have g:=not_eq_f a
 have U:=Fz.1 g
 refine l_M (.string s) (gY rfl a) rfl ?_
 obtain⟨d,f⟩:=Alc (s:=s) (i:=0) (by omega)
 refine Aa (gY rfl a) (Ace 0 d Btr rfl (q:=0) rfl rfl f) (Aa (gY rfl a) (Da rfl rfl) (l_v (Bn rfl a (v:=.bool (decide ((d.toNat:Int)<97))) rfl) (Av (.bool (decide ((d.toNat:Int)<97))) (Cn (decide ((d.toNat:Int)<97)) (fun b=>?_) (fun b=>?_)))))
 ·have D:=lZ1 b
  refine Ap (gN rfl b) (Ap (gN rfl b) (Ap (gN rfl b) (l_v (Bt rfl b (v:=bT) rfl) (l_k j (Co rfl rfl (w_q rfl rfl fun G p=>Au bF (l_k p (Aq (h (rT bF ?_))))))))))
  simp only[Hg,Qb,f,a,g,b,Ii,Iv,Jt,Jm,Lb,Hz,Iz,Jw,Ix,Jo]
 have D:=lZ0 b
 refine l_M (.string s) (gY rfl b) rfl (Aa (gY rfl b) (Ace 0 d Btr rfl (q:=0) rfl rfl f) (Aa (gY rfl b) (Gl rfl rfl) (l_v (Bn rfl b (v:=.bool (decide ((d.toNat:Int)>122))) rfl) (l_k j (Bf (t:=decide ((d.toNat:Int)>122)) rfl (fun e=>?_) (fun e=>?_))))))
 ·have C:=lZ1 e
  refine w_q rfl rfl fun H u=>Au bF (l_k u (Aq (h (rT bF ?_))))
  simp only[Hg,Qb,f,a,g,b,e,Ii,Iv,Jt,Jm,Lb,Hz,Iz,Jw,Ix,Jo]
 have C:=lZ0 e
 refine Al (kk y ?_)
 refine w_q rfl rfl fun I w=>Av (.string s) (Arv (Amd (s:=s) Btr Btu Bud rfl (by omega) fun R M N V O l m=>?_))
 refine Alh l m (by omega) fun W B E=>Arv (Bw (Ta E (⟨135,Tryz.f135,[],rfl,Tryz.func135,rfl,rfl,fun mn X ρ σ v x hv=>by rw[Uq.1 hv];exact Ahe⟩:Su (.func (.func 135) #[] #[]) (fun c:UInt8=>Ov (c.toNat:Int)))) Tryz.func134 ?_)
 refine l_v (Iy rfl) (Au (.bool (!(s.data.toList.any (fun c:UInt8=>Ov (c.toNat:Int))))) (l_k w (Aj (Bxj B) (Aq (h ⟨rfl,rfl,eT (.bool (!(s.data.toList.any (fun c:UInt8=>Ov (c.toNat:Int))))) ?_⟩)))))
 rw[Akl,Bool.not_not]
 simp only[Hg,Qb,f,a,g,b,e,Ii,Iv,Jt,Jm,Lb,Hz,Iz,Jw,Ix,Jo]
theorem Wx{r i clock:Nat}{es:Array MapEntry}{pr:ByteArray→Bool}{s:ByteArray}(hs:Mu es pr)(hi:σ[i]?=some (r,.obj (.map es clock)))(hz:s.size<2^60):CallsH (CX mn X) 81 #[.map (some r),.string s] ρ σ (fun w ρ' σ'=>ρ'=ρ∧((w = .int .i64 4∧Hg s=false∧σ'=σ)∨(w = .int .i64 5∧Hg s=true∧pr s=true∧σ'=σ)∨(w=z0∧Hg s=true∧pr s=false∧∃es' ck',Mu es' (fun k'=>k'.toList==s.toList||pr k')∧σ'=σ.set i (r,.obj (.map es' ck'))))):=by
 refine Bq 15 [4] Bxh rfl fun Q c G=>w_q rfl rfl fun p e=>Au (iV 0) (Asa e fun x j=>Ao (w_q rfl rfl fun y l=>Av (.string s) (Arv (Bw (Aks (by omega)) Tryz.func112 ?_))))
 refine l_v (Iy rfl) (Au (.bool (!(Hg s))) (l_k l (Bf (t:=!(Hg s)) rfl (fun a=>?_) (fun a=>?_))))
 ·have C:=not_eq_t a
  refine w_q rfl rfl fun z m=>Au (iV 4) (l_k m (Aq (c ⟨rfl,.inl ⟨rfl,by simpa using a,rfl⟩⟩)))
 have D:=not_eq_f a
 refine w_q rfl rfl fun B n=>Av (.map (some r)) (Av (.string s) (Arv (Xq (i:=i) (kt:=9) (et:=4) (k:=s) (pr:=pr) Tryz.underlying162 Btr zr4 hs rfl rfl hi ?_)))
 refine Au (.bool (pr s)) (l_k n (Bf (t:=pr s) rfl (fun b=>?_) (fun b=>?_)))
 ·refine w_q rfl rfl fun q f=>Au (iV 5) (l_k f (Aq (c ⟨rfl,.inr (.inl ⟨rfl,by simpa using a,b,rfl⟩)⟩)))
 refine Al (kk j ?_)
 refine w_q rfl rfl fun u g=>Av (.map (some r)) (Av (.string s) (Cx rfl (Afq (i:=i) (kt:=9) (et:=4) (k:=s) (pr:=pr) Tryz.underlying162 Btr hs b rfl rfl rfl hi fun F E d=>?_)))
 refine Arx rfl rfl g fun v h=>Au (iV 0) (l_k h (Aq (c ⟨rfl,.inr (.inr ⟨rfl,by simpa using a,b,_,_,d,rfl⟩)⟩)))
theorem Mf{l:List ByteArray}{vl:Value}{most:Int}(rl:Val ρ vl l):CallsH (CX mn X) 79 #[iV most,vl] ρ σ (rP ρ σ (iV (Dd l most))):=by
 refine Bq 27 [4] Bxg rfl fun Q d ae=>w_q rfl rfl fun Z D=>Au (iV 0) (Ary rfl rfl D fun K2 K3 J R=>Av vl ?_)
 have g4:=Bxo rl
 refine l_v (Ci (el:=9) Bts rfl rl) (Av (iV most) (l_v (Gl rfl rfl) (l_k R (Bf (t:=decide ((l.length:Int)>most)) rfl (fun g=>?_) (fun g=>?_)))))
 ·have Y:=lZ1 g
  refine w_q rfl rfl fun K6 T=>Au (iV 2) (l_k T (Aq (d (rT (iV 2) ?_))))
  rw[Dd,if_pos (by omega)]
 have Y:=lZ0 g
 refine Al (kk J ?_)
 refine w_q rfl rfl fun K7 U=>Arv (Oh fun c=>?_)
 refine Au (.map (some c)) (Ary rfl rfl U fun K9 a0 V E=>Av vl ?_)
 have ac:=Bxo rl
 refine l_v (Ci (el:=9) Bts rfl rl) (Av (iV 0) (l_k E (Ao (Cc (fun mm ee dd ρ' σ'=>∃(i:Nat) (es12_5:Array MapEntry) (ck12_5:Nat),(l.length-i)=mm∧[]=dd∧ρ=ρ'∧((c,Res.obj (Obj.map es12_5 ck12_5))::σ)=σ'∧ee 14=vl∧ee 15=(iV (l.length:Int))∧ee 5=(.map (some c))∧ee 16=iV i∧(i≤l.length)∧(∀j,j<i→Nh l j=0)∧Mu es12_5 (inL (l.take i))∧True) (m:=_) ⟨0,#[],0,rfl,rfl,rfl,rfl,rfl,rfl,rfl,rfl,Gn _,fun j h=>absurd h (Sg _),Rl (fun k=>by simp[inL]) Uh,trivial⟩ ?_))))
 rintro m12 e12 _ _ _ ⟨i,es12_5,ck12_5,rfl,rfl,rfl,rfl,h12_14,h12_15,h12_5,h12_16,p12_0,p12_1,MS12_5,_⟩
 refine w_q rfl rfl fun a1 F=>l_v (Da h12_16 h12_15) (Asa F fun a2 G=>Bf (t:=decide ((i:Int)<(l.length:Int))) rfl (fun f=>?_) (fun f=>?_))
 ·have W:=lZ1 f
  refine Al (kk G ?_)
  refine Ai fun a3 H=>Ao (w_q rfl rfl fun a4 I=>?_)
  obtain⟨e,a⟩:=Ed (xs:=l) (i:=i) (by omega)
  refine Arw (Ch i Bts ty9 h12_14 rl (q:=(i:Int)) h12_16 rfl a) fun af x=>?_
  have ad:=At.slen x
  refine l_v (Pk ty9 rfl x) (Au (.string e) (Arx rfl rfl I fun a5 w=>l_v (Ah (v:=.map (some c)) h12_5) (Av (.string e) (Arv (Cm (vs:=[.map (some c),.string e]) (Wx (i:=0) MS12_5 rfl (by omega)) Bxh rfl rfl ⟨rfl,rfl,trivial⟩ fun ag ah ai n=>?_)))))
  obtain⟨u,n⟩:=n
  replace u:=u.symm;subst u
  rcases n with⟨rfl,b,rfl⟩|⟨rfl,b,p,rfl⟩|⟨rfl,b,p,C,B,y,rfl⟩
  ·refine Au (iV 4) (Arx rfl rfl w fun a6 K=>Av (iV 4) (l_v (Dg rfl rfl) (l_k K (Co rfl rfl (w_q rfl rfl fun a7 L=>Av (iV 4) (Au (iV 4) (l_k L (Aj Bxi (Aq (d (rT (iV 4) ?_)))))))))))
   rw[Dd,if_neg (by omega),Db p12_1 (by omega) (Ail a b) (by omega)]
  ·refine Au (iV 5) (Arx rfl rfl w fun a8 M=>Av (iV 5) (l_v (Dg rfl rfl) (l_k M (Co rfl rfl (w_q rfl rfl fun a9 N=>Av (iV 5) (Au (iV 5) (l_k N (Aj Bxi (Aq (d (rT (iV 5) ?_)))))))))))
   rw[Dd,if_neg (by omega),Db p12_1 (by omega) (Aim a b p) (by omega)]
  refine Au (iV 0) (Arx rfl rfl w fun aa O=>Av (iV 0) (l_v (Dg rfl rfl) (l_k O (Cg rfl rfl (Al (kk H ?_))))))
  refine Ag rfl rfl (l_v (Br h12_16 rfl (z:=(((i+1):Nat):Int)) wrE) (Av (iV ((i+1):Nat)) (Ac ?_)))
  refine⟨_,?_,(i+1),C,B,rfl,rfl,rfl,rfl,h12_14,h12_15,h12_5,rfl,(by omega),(Eg p12_1 (Aik a b p)),(Rl (Tq a) y),trivial⟩
  omega
 have W:=lZ0 f
 refine Bx (kk V ?_)
 refine w_q rfl rfl fun ab P=>Au (iV 0) (l_k P (Aj Bxi (Aq (d (rT (iV 0) ?_)))))
 rw[Dd,if_neg (by omega),Fb fun j hj=>p12_1 j (by omega)]
end
section
open Go
theorem We{l:List Span}{many:Int}(h:(l.length:Int)=many):Fm l many=if l.any (fun x=>!Ef x 0 1000) then 1 else 0:=by
 rw[Fm,if_pos h]
 cases ha:l.any (fun x=>!Ef x 0 1000) with
 | false =>
  rw[Fb fun j hj=>?_]
  ·rfl
  ·rw[Azu]at ha
   have:=ha l[j] (Azv hj)
   simp only[Nn,Sc hj]
   rw[if_pos (by simpa using this)]
 | true =>
  rcases Ft (n:=l.length) (p:=fun j=>Nn l j != 0) with⟨i,hi,hp,hlt,he⟩|⟨a,_⟩
  ·have b:Nn l i=1:=by
    simp only[Nn,Sc hi]at hp ⊢
    split
    ·rename_i hh;rw[if_pos hh]at hp;simp at hp
    ·rfl
   rw[Db (i:=i) (fun j hj=>by simpa using hlt j hj) hi b (by omega)];rfl
  ·rw[Axj]at ha
   obtain⟨x,hx,hb⟩:=ha
   obtain⟨i,hi⟩:=Bcn hx
   have:=a i (lZ8.1 hi).1
   simp only[Nn,hi]at this
   rw[if_neg (by simpa using hb)]at this
   simp at this
theorem Vp{m:Market}{i:Nat}{s:ByteArray}:inL ((m.fields.map FField.name).take i) s=true↔(Cl i (Mk m s)).isSome=true:=by
 rw[←Azt,←Azt,Fs]
 apply not_congr
 unfold inL
 rw[Azu]
 constructor
 ·intro h j hj
  unfold Mk
  cases hx:m.fields[j]? with
  | none=>rfl
  | some x =>
   have:=h x.name (Hd (i:=j) (by rw[Aez,if_pos hj,Tp,hx];rfl))
   simp only[beq_iff_eq]at this
   simp only[beq_eq_false_iff_ne,ne_eq]
   exact fun e=>this e.symm
 ·intro h x hx
  obtain⟨j,hj⟩:=Bcn hx
  rw[Aez]at hj
  split at hj
  ·rename_i hlt
   rw[Tp]at hj
   obtain⟨y,hy,rfl⟩:=Bgj.1 hj
   have:=h j hlt
   unfold Mk at this
   rw[hy]at this
   simp only[beq_eq_false_iff_ne,ne_eq]at this
   simp only[beq_iff_eq]
   exact fun e=>this e.symm
  ·cases hj
theorem Ml{m:Market}{i:Nat}{s:ByteArray}(h:inL ((m.fields.map FField.name).take i) s=false):(Cl i (Mk m s)).isSome=false:=by
 cases hh:(Cl i (Mk m s)).isSome with
 | false=>rfl
 | true=>rw[Vp.2 hh]at h;cases h
/-- The seller before,or -1. -/
def Abg(l:List Int)(q:Nat)(la:Int):Prop:=(q=0∧la = -1)∨∃k,q=k+1∧l[k]?=some la
theorem Ze{m:Market}{s:Sale}{q:Nat}{h la:Int}(hc:s.sellers[q]?=some h)(hin:inR h 0 ((m.houses.length:Int)-1)=true)(hl:Abg s.sellers q la)(hle:h≤la):Gt m s q=7:=by
 simp only[Gt,hc,hin,if_true]
 rcases hl with⟨rfl,rfl⟩|⟨k,rfl,hk⟩
 ·have:=(Fz.1 hin).1;omega
 ·rw[if_pos (by omega),show k+1-1=k by omega,hk]
  simp only[hle,if_true]
theorem Xj{m:Market}{s:Sale}{q:Nat}{h la:Int}(hc:s.sellers[q]?=some h)(hin:inR h 0 ((m.houses.length:Int)-1)=true)(hl:Abg s.sellers q la)(hle:¬h≤la):Gt m s q=0:=by
 simp only[Gt,hc,hin,if_true]
 rcases hl with⟨rfl,rfl⟩|⟨k,rfl,hk⟩
 ·simp
 ·rw[if_pos (by omega),show k+1-1=k by omega,hk]
  simp only[hle,if_false]
theorem Als{l:List Int}{q:Nat}{h:Int}(hh:∀j h,j<q→l[j]?=some h→0≤h)(hq:l[q]?=some h)(h0:0≤h):∀j h,j<q+1→l[j]?=some h→0≤h:=fun j h' hj hx=>by
 rcases Rd j q with hlt|hge
 ·exact hh j h' hlt hx
 ·obtain rfl:j=q:=by omega
  rw[hq]at hx;cases hx;exact h0
end
section
open Go
variable{mn:Bool}{X:Frame→List Frame→Ro→Own→Cy→Prop}{ρ:Ro}{σ:Own}
theorem Ahc{x:Span}{vx:Value}(rx:Val ρ vx x):CallsH (CX mn X) 133 #[vx] ρ σ (rP ρ σ (.bool (!Ef x 0 1000))):=by
 refine Bq 6 [2] Tryz.func133 rfl fun Q b j=>w_q rfl rfl fun h c=>Arv (Eb (v:=vx) rfl fun k=>?_)
 refine Bb (a:=x) rx fun m e f=>Au bF (Arx rfl rfl c fun i d=>Arw (Ax Mx rfl f) fun l g=>Arv (Bw (Yc g) Tryz.func113 ?_))
 refine l_v (Iy rfl) (Au (.bool (!(Ef x 0 1000))) (l_k d (Aj (Bxj e) (Aq (b (rT (.bool (!(Ef x 0 1000))) ?_))))))
 rfl
theorem Pq{l:List Span}{vl:Value}{many:Int}(rl:Val ρ vl l):CallsH (CX mn X) 109 #[vl,iV many] ρ σ (rP ρ σ (iV (Fm l many))):=by
 refine Bq 11 [4] Tryz.func109 rfl fun Q c D=>w_q rfl rfl fun n e=>Au (iV 0) (Ary rfl rfl e fun u w h i=>Av vl ?_)
 have C:=Bxo rl
 refine l_v (Ci (el:=48) Bug rfl rl) (Av (iV many) (l_v (Dg rfl rfl) (l_k i (Bf (t:=(l.length:Int) != many) rfl (fun a=>?_) (fun a=>?_)))))
 ·have d:=Ls a
  refine w_q rfl rfl fun y j=>Au (iV 2) (l_k j (Aq (c (rT (iV 2) ?_))))
  rw[Fm,if_neg d]
 have d:=Jh a
 refine Al (kk h ?_)
 refine Asb rfl rfl fun z B k m=>Av vl (Arv (Bw (Tb rl (⟨133,Tryz.f133,[],rfl,Tryz.func133,rfl,rfl,fun mn X ρ σ v x hv=>Ahc hv⟩:Su (.func (.func 133) #[] #[]) (fun x:Span=>!Ef x 0 1000))) Tryz.func132 ?_))
 refine l_k m (Bf (t:=l.any (fun x:Span=>!Ef x 0 1000)) rfl (fun b=>?_) (fun b=>?_))
 ·refine w_q rfl rfl fun p f=>Au (iV 1) (l_k f (Aq (c (rT (iV 1) ?_))))
  rw[We (by omega),b];rfl
 refine Al (kk k ?_)
 refine w_q rfl rfl fun q g=>Au (iV 0) (l_k g (Aq (c (rT (iV 0) ?_))))
 rw[We (by omega),b];rfl
theorem Vc{m:Market}{vm:Value}(rm:Val ρ vm m):CallsH (CX mn X) 82 #[vm] ρ σ (rP ρ σ (iV (Ew m))):=by
 refine Bq 51 [2] Tryz.func82 rfl fun Q n bz=>w_q rfl rfl fun K1 k1=>Arv (Eb (v:=vm) rfl fun k2=>?_)
 refine Bb (a:=m) rm fun b1 p y=>Au (iV 0) (Ary rfl rfl k1 fun K3 K4 k3 k4=>Arw (Ba Market.f_fields Btt rfl Se y) fun v5 r5=>Arw (Ax Se rfl r5) fun v6 V=>?_)
 have g7:=Bxo V
 refine l_v (Ci (el:=51) Bue rfl V) (l_v (Gl rfl rfl) (l_k k4 (Bf (t:=decide ((m.fields.length:Int)>6)) rfl (fun l=>?_) (fun l=>?_))))
 ·have E:=lZ1 l
  refine w_q rfl rfl fun K9 k9=>Au (iV 2) (l_k k9 (Aj (Bxj p) (Aq (n (rT (iV 2) ?_)))))
  rw[Ew,if_pos (by omega)]
 have E:=lZ0 l
 refine Al (kk k3 ?_)
 refine w_q rfl rfl fun b2 a2=>Arv (Oh fun C=>?_)
 refine Au (.map (some C)) (Ary rfl rfl a2 fun b3 b4 a3 a4=>Arw (Ba Market.f_fields Btt rfl Se y) fun c1 ap=>Arw (Ax Se rfl ap) fun az M=>?_)
 have bq:=Bxo M
 refine l_v (Ci (el:=51) Bue rfl M) (Av (iV 0) (l_k a4 (Ao (Cc (fun mm ee dd ρ' σ'=>∃(i:Nat) (es17_3:Array MapEntry) (ck17_3:Nat),(m.fields.length-i)=mm∧[]=dd∧b1=ρ'∧((C,Res.obj (Obj.map es17_3 ck17_3))::σ)=σ'∧ee 1=pV k2∧ee 14=az∧ee 15=(iV (m.fields.length:Int))∧ee 3=(.map (some C))∧ee 16=iV i∧(i≤m.fields.length)∧(∀j,j<i→fieldAt m j=0)∧Mu es17_3 (inL ((m.fields.map FField.name).take i))∧True) (m:=_) ⟨0,#[],0,rfl,rfl,rfl,rfl,rfl,rfl,rfl,rfl,rfl,Gn _,fun j h=>absurd h (Sg _),Rl (fun k=>by simp[inL]) Uh,trivial⟩ ?_))))
 rintro m17 e17 _ _ _ ⟨i,es17_3,ck17_3,rfl,rfl,rfl,rfl,h17_1,h17_14,h17_15,h17_3,h17_16,p17_0,p17_1,MS17_3,_⟩
 refine w_q rfl rfl fun b5 a5=>l_v (Da h17_16 h17_15) (Asa a5 fun b6 a6=>Bf (t:=decide ((i:Int)<(m.fields.length:Int))) rfl (fun f=>?_) (fun f=>?_))
 ·have D:=lZ1 f
  refine Al (kk a6 ?_)
  refine Ai fun b7 a7=>Ao (w_q rfl rfl fun b9 a8=>?_)
  obtain⟨b,d⟩:=Ed (xs:=m.fields) (i:=i) (by omega)
  refine Arw (Ch i Bue Lo h17_14 M (q:=(i:Int)) h17_16 rfl d) fun c2 aq=>Arw (Ax Lo rfl aq) fun b0 P=>Arv (Ct Xu fun c0=>?_)
  refine Cx rfl (Dv (v:=b0) (a:=b) (c:=Aah) Lo rfl rfl P rfl ?_)
  refine Bb (a:=b) P fun ce u H=>?_
  replace y:=At.mono u y
  refine Ary rfl rfl a8 fun ba bb a9 K=>l_v (Ah (v:=.map (some C)) h17_3) (Arw (Ba FField.f_name Btx rfl ty9 H) fun c3 R=>?_)
  have br:=At.slen R
  refine l_v (Pk ty9 rfl R) (Arv (Cm (vs:=[.map (some C),.string b.name]) (Wx (i:=0) MS17_3 rfl (by omega)) Bxh rfl rfl ⟨rfl,rfl,trivial⟩ fun cd cf cg I=>?_))
  obtain⟨J,I⟩:=I
  replace J:=J.symm;subst J
  rcases I with⟨rfl,e,rfl⟩|⟨rfl,e,x,rfl⟩|⟨rfl,e,x,a1,a0,Y,rfl⟩
  ·refine Au (iV 4) (Arx rfl rfl K fun bc aa=>Av (iV 4) (l_v (Dg rfl rfl) (l_k aa (Co rfl rfl (w_q rfl rfl fun bd ab=>Av (iV 4) (Au (iV 4) (l_k ab (Aj Bxi (Aj (Bxj (Bxn p u)) (Aq (n (rT (iV 4) ?_))))))))))))
   have hf:fieldAt m i=4:=by simp[fieldAt,d,e]
   rw[Ew,if_neg (by omega),Db p17_1 (by omega) hf (by omega)]
  ·refine Au (iV 5) (Arx rfl rfl K fun be ac=>Av (iV 5) (l_v (Dg rfl rfl) (l_k ac (Co rfl rfl (w_q rfl rfl fun bf ad=>Av (iV 5) (Au (iV 5) (l_k ad (Aj Bxi (Aj (Bxj (Bxn p u)) (Aq (n (rT (iV 5) ?_))))))))))))
   have hf:fieldAt m i=5:=by simp[fieldAt,d,e,Vp.1 x]
   rw[Ew,if_neg (by omega),Db p17_1 (by omega) hf (by omega)]
  refine Au (iV 0) (Arx rfl rfl K fun bg ae=>Av (iV 0) (l_v (Dg rfl rfl) (l_k ae (Cg rfl rfl (Al (kk a9 ?_))))))
  refine Ai fun bh af=>Ao (w_q rfl rfl fun bi ag=>Arw (Ba FField.f_house Btx rfl ty3 H) fun c4 T=>?_)
  have⟨bt,bu⟩:=At.rng T
  refine l_v (Bc ty3 rfl T) (Arw (Ba Market.f_houses Btt rfl Hw y h17_1) fun c5 ar=>Arw (Ax Hw rfl ar) fun c6 U=>?_)
  have bv:=Bxo U
  refine l_v (Ci (el:=9) Bts rfl U) (l_v (Ou rfl rfl (z:=(m.houses.length:Int)-1) wrE) (Arv (Bw Jl Bvv ?_)))
  refine l_v (Iy rfl) (Au (.bool (!(inR b.house 0 ((m.houses.length:Int)-1)))) (l_k ag (Bf (t:=!(inR b.house 0 ((m.houses.length:Int)-1))) rfl (fun g=>?_) (fun g=>?_))))
  ·have N:=not_eq_t g
   have ao:=Vw.1 N
   refine w_q rfl rfl fun bj ah=>Au (iV 6) (l_k ah (Aj Bxi (Aj (Bxj (Bxn p u)) (Aq (n (rT (iV 6) ?_))))))
   have hf:fieldAt m i=6:=by simp[fieldAt,d,e,Ml x,l,f,g,N,E,D,ao]
   rw[Ew,if_neg (by omega),Db p17_1 (by omega) hf (by omega)]
  have F:=not_eq_f g
  have L:=Fz.1 F
  refine w_q rfl rfl fun bk ai=>Arw (Ba FField.f_grows Btx rfl Mx H) fun c7 au=>Arw (Ax Mx rfl au) fun c8 av=>Arv (Bw (Yc av) Tryz.func113 ?_)
  refine l_v (Iy rfl) (Au (.bool (!(Ef b.grows 0 1000000))) (l_k ai (Bf (t:=!(Ef b.grows 0 1000000)) rfl (fun w=>?_) (fun w=>?_))))
  ·have Z:=not_eq_t w
   refine w_q rfl rfl fun bl aj=>Au (iV 1) (l_k aj (Aj Bxi (Aj (Bxj (Bxn p u)) (Aq (n (rT (iV 1) ?_))))))
   have hf:fieldAt m i=1:=by simp[fieldAt,d,e,Ml x,l,f,g,F,w,Z,E,D,L]
   rw[Ew,if_neg (by omega),Db p17_1 (by omega) hf (by omega)]
  have O:=not_eq_f w
  refine Al (kk af ?_)
  refine w_q rfl rfl fun bm ak=>Arw (Ba FField.f_marks Btx rfl Uo H) fun c9 aw=>Arw (Ax Uo rfl aw) fun ca ax=>Arw (Ba Market.f_marks Btt rfl Hw y h17_1) fun cb ay=>Arw (Ax Hw rfl ay) fun cc W=>?_
  have bx:=Bxo W
  refine l_v (Ci (el:=9) Bts rfl W) (Arv (Bw (Pq ax) Tryz.func109 ?_))
  refine Au (iV (Fm b.marks (m.marks.length:Int))) (Arx rfl rfl ak fun bn al=>Av (iV (Fm b.marks (m.marks.length:Int))) (l_v (Dg rfl rfl) (l_k al (Bf (t:=Fm b.marks (m.marks.length:Int) != 0) rfl (fun B=>?_) (fun B=>?_)))))
  ·have G:=Ls B
   refine w_q rfl rfl fun bo am=>Av (iV (Fm b.marks (m.marks.length:Int))) (Au (iV (Fm b.marks (m.marks.length:Int))) (l_k am (Aj Bxi (Aj (Bxj (Bxn p u)) (Aq (n (rT (iV (Fm b.marks (m.marks.length:Int))) ?_)))))))
   have hf:fieldAt m i=Fm b.marks ((m.marks.length:Int)):=by simp[fieldAt,d,e,Ml x,l,f,g,F,w,O,B,E,D,L,G]
   rw[Ew,if_neg (by omega),Db p17_1 (by omega) hf G]
  have G:=Jh B
  refine Al (kk a7 ?_)
  refine Ag rfl rfl (l_v (Br h17_16 rfl (z:=(((i+1):Nat):Int)) wrE) (Av (iV ((i+1):Nat)) (Bj (Bxj u) (Ac ?_))))
  refine⟨_,?_,(i+1),a1,a0,rfl,rfl,rfl,rfl,h17_1,h17_14,h17_15,h17_3,rfl,(by omega),(Eg p17_1 (by simp[fieldAt,d,e,Ml x,l,f,g,F,w,O,B,E,D,L,G])),(Rl (Tq (by rw[Tp,d];rfl)) Y),trivial⟩
  omega
 have D:=lZ0 f
 refine Bx (kk a3 ?_)
 refine w_q rfl rfl fun bp an=>Au (iV 0) (l_k an (Aj Bxi (Aj (Bxj p) (Aq (n (rT (iV 0) ?_))))))
 rw[Ew,if_neg (by omega),Fb fun j hj=>p17_1 j (by omega)]
theorem Wy{m:Market}{vm:Value}(rm:Val ρ vm m):CallsH (CX mn X) 83 #[vm] ρ σ (rP ρ σ (iV (Jc m))):=by
 refine Bq 51 [2] Tryz.func83 rfl fun Q x c0=>w_q rfl rfl fun K1 k1=>Arv (Eb (v:=vm) rfl fun O=>?_)
 refine Bb (a:=m) rm fun az y C=>Au (iV 0) (Ary rfl rfl k1 fun K3 K4 k3 k4=>Arw (Ba Market.f_sales Btt rfl Qn C) fun v5 r5=>Arw (Ax Qn rfl r5) fun v6 r6=>?_)
 have g7:=Bxo r6
 refine l_v (Ci (el:=54) Buf rfl r6) (l_v (Gl rfl rfl) (l_k k4 (Bf (t:=decide ((m.sales.length:Int)>8)) rfl (fun g=>?_) (fun g=>?_))))
 ·have F:=lZ1 g
  refine w_q rfl rfl fun K9 k9=>Au (iV 2) (l_k k9 (Aj (Bxj y) (Aq (x (rT (iV 2) ?_)))))
  rw[Jc,if_pos (by omega)]
 have F:=lZ0 g
 refine Al (kk k3 ?_)
 refine Asb rfl rfl fun b1 b2 a1 a2=>Arw (Ba Market.f_sales Btt rfl Qn C) fun c2 aq=>Arw (Ax Qn rfl aq) fun a0 J=>?_
 have bp:=Bxo J
 refine l_v (Ci (el:=54) Buf rfl J) (Av (iV 0) (l_k a2 (Ao (Cc (fun mm ee dd ρ' σ'=>∃(i:Nat),(m.sales.length-i)=mm∧[]=dd∧az=ρ'∧σ=σ'∧ee 1=pV O∧ee 13=a0∧ee 14=(iV (m.sales.length:Int))∧ee 15=iV i∧(i≤m.sales.length)∧(∀j,j<i→Jb m j=0)∧True) (m:=_) ⟨0,rfl,rfl,rfl,rfl,rfl,rfl,rfl,rfl,Gn _,fun j h=>absurd h (Sg _),trivial⟩ ?_))))
 rintro m15 e15 _ _ _ ⟨i,rfl,rfl,rfl,rfl,h15_1,h15_13,h15_14,h15_15,p15_0,p15_1,_⟩
 refine w_q rfl rfl fun b3 a3=>l_v (Da h15_15 h15_14) (Asa a3 fun b4 a4=>Bf (t:=decide ((i:Int)<(m.sales.length:Int))) rfl (fun e=>?_) (fun e=>?_))
 ·have E:=lZ1 e
  refine Al (kk a4 ?_)
  refine Ai fun b5 a5=>Ao (w_q rfl rfl fun b6 a6=>?_)
  obtain⟨b,u⟩:=Ed (xs:=m.sales) (i:=i) (by omega)
  refine Arw (Ch i Buf Up h15_13 J (q:=(i:Int)) h15_15 rfl u) fun c3 ar=>Arw (Ax Up rfl ar) fun ax U=>Arv (Ct Agb fun c1=>?_)
  refine Cx rfl (Dv (v:=ax) (a:=b) (c:=Akd) Up rfl rfl U rfl ?_)
  refine Bb (a:=b) U fun b0 B K=>?_
  replace C:=At.mono B C
  refine Asa a6 fun b7 a7=>Ao (w_q rfl rfl fun b9 a8=>Arw (Ba Sale.f_grams Buh rfl ty3 K) fun c4 V=>?_)
  have⟨bq,br⟩:=At.rng V
  refine l_v (Bc ty3 rfl V) (Arv (Bw Jl Bvv ?_))
  refine l_v (Iy rfl) (Au (.bool (!(inR b.grams 0 1000000))) (l_k a8 (Bf (t:=!(inR b.grams 0 1000000)) rfl (fun f=>?_) (fun f=>?_))))
  ·have M:=not_eq_t f
   have ao:=Vw.1 M
   refine w_q rfl rfl fun ba a9=>Au (iV 1) (l_k a9 (Aj (Bxj (Bxn y B)) (Aq (x (rT (iV 1) ?_)))))
   have hf:Jb m i=1:=by simp[Jb,u,g,e,f,M,F,E,ao]
   rw[Jc,if_neg (by omega),Db p15_1 (by omega) hf (by omega)]
  have n:=not_eq_f f
  have P:=Fz.1 n
  refine w_q rfl rfl fun bb aa=>Arw (Ba Sale.f_sellers Buh rfl Vh K) fun c5 au=>Arw (Ax Vh rfl au) fun c6 W=>?_
  have bt:=Bxo W
  refine l_v (Ci (el:=3) Buk rfl W) (l_v (Ek rfl rfl) (Au (.bool ((b.sellers.length:Int)==0)) (l_k aa (Bf (t:=(b.sellers.length:Int)==0) rfl (fun k=>?_) (fun k=>?_)))))
  ·have H:=Jr k
   refine w_q rfl rfl fun bc ab=>Au (iV 2) (l_k ab (Aj (Bxj (Bxn y B)) (Aq (x (rT (iV 2) ?_)))))
   have hf:Jb m i=2:=by simp[Jb,u,g,e,f,n,k,F,E,P,H]
   rw[Jc,if_neg (by omega),Db p15_1 (by omega) hf (by omega)]
  have H:=Jq k
  refine Al (kk a7 ?_)
  refine w_q rfl rfl fun bd ac=>Au (iV (-1)) (Arx rfl rfl ac fun be ad=>Arw (Ba Sale.f_sellers Buh rfl Vh K) fun c7 av=>Arw (Ax Vh rfl av) fun ay L=>?_)
  have bu:=Bxo L
  refine l_v (Ci (el:=3) Buk rfl L) (Av (iV 0) (l_k ad (Ao (Cc (fun mm ee dd ρ' σ'=>∃(q:Nat) (la:Int),(b.sellers.length-q)=mm∧[]=dd∧b0=ρ'∧σ=σ'∧ee 1=pV O∧ee 13=a0∧ee 14=(iV (m.sales.length:Int))∧ee 15=iV i∧ee 30=ay∧ee 31=(iV (b.sellers.length:Int))∧ee 5=iV la∧ee 32=iV q∧(q≤b.sellers.length)∧(∀j,j<q→Gt m b j=0)∧(Abg b.sellers q la)∧(∀j h,j<q→b.sellers[j]?=some h→0≤h)∧True) (m:=_) ⟨0,-1,rfl,rfl,rfl,rfl,h15_1,h15_13,h15_14,h15_15,rfl,rfl,rfl,rfl,Gn _,fun j h=>absurd h (Sg _),.inl ⟨rfl,rfl⟩,fun j h hj=>absurd hj (Sg _),trivial⟩ ?_))))
  rintro m45 e45 _ _ _ ⟨q,la,rfl,rfl,rfl,rfl,h45_1,h45_13,h45_14,h45_15,h45_30,h45_31,h45_5,h45_32,p45_0,p45_1,p45_2,p45_3,_⟩
  refine w_q rfl rfl fun bf ae=>l_v (Da h45_32 h45_31) (Asa ae fun bg af=>Bf (t:=decide ((q:Int)<(b.sellers.length:Int))) rfl (fun l=>?_) (fun l=>?_))
  ·have R:=lZ1 l
   refine Al (kk af ?_)
   refine Ai fun bh ag=>Ao (w_q rfl rfl fun bi ah=>?_)
   obtain⟨d,w⟩:=Ed (xs:=b.sellers) (i:=q) (by omega)
   refine Arw (Ch q Buk ty3 h45_30 L (q:=(q:Int)) h45_32 rfl w) fun c8 Y=>?_
   have⟨bv,bx⟩:=At.rng Y
   refine l_v (Bc ty3 rfl Y) (Au (iV d) (Asa ah fun bj ai=>Ao (w_q rfl rfl fun bk aj=>Av (iV d) (Arw (Ba Market.f_houses Btt rfl Hw C h45_1) fun c9 aw=>Arw (Ax Hw rfl aw) fun ca Z=>?_))))
   have bz:=Bxo Z
   refine l_v (Ci (el:=9) Bts rfl Z) (l_v (Ou rfl rfl (z:=(m.houses.length:Int)-1) wrE) (Arv (Bw Jl Bvv ?_)))
   refine l_v (Iy rfl) (Au (.bool (!(inR d 0 ((m.houses.length:Int)-1)))) (l_k aj (Bf (t:=!(inR d 0 ((m.houses.length:Int)-1))) rfl (fun p=>?_) (fun p=>?_))))
   ·have G:=not_eq_t p
    have ap:=Vw.1 G
    refine w_q rfl rfl fun bl ak=>Au (iV 6) (l_k ak (Aj (Bxj (Bxn y B)) (Aq (x (rT (iV 6) ?_)))))
    have hq:Gt m b q=6:=by
     simp[Gt,w,g,e,f,n,k,l,p,G,F,E,P,H,R,ap]
    have hf:Jb m i=6:=by simp only[Jb,u,g,e,f,n,k,l,p,G,if_true];rw[if_neg (by omega),Db p45_1 (by omega) hq (by omega)]
    rw[Jc,if_neg (by omega),Db p15_1 (by omega) hf (by omega)]
   have N:=not_eq_f p
   have T:=Fz.1 N
   refine w_q rfl rfl fun bm al=>Av (iV d) (l_v (Ah (v:=iV la) h45_5) (l_v (Uz rfl rfl) (Au (.bool (decide (d≤la))) (l_k al (Bf (t:=decide (d≤la)) rfl (fun D=>?_) (fun D=>?_))))))
   ·have I:=lZ1 D
    refine w_q rfl rfl fun bn am=>Au (iV 7) (l_k am (Aj (Bxj (Bxn y B)) (Aq (x (rT (iV 7) ?_)))))
    have hq:Gt m b q=7:=by
     exact Ze w (Fz.2 T) p45_2 I
    have hf:Jb m i=7:=by simp only[Jb,u,g,e,f,n,k,l,p,N,D,if_true];rw[if_neg (by omega),Db p45_1 (by omega) hq (by omega)]
    rw[Jc,if_neg (by omega),Db p15_1 (by omega) hf (by omega)]
   have I:=lZ0 D
   refine Al (kk ai ?_)
   refine Ag rfl rfl (Av (iV d) (Au (iV d) (l_k ag (Ag rfl rfl (l_v (Br h45_32 rfl (z:=(((q+1):Nat):Int)) wrE) (Av (iV ((q+1):Nat)) (Ac ?_)))))))
   refine⟨_,?_,((q+1)),(d),rfl,rfl,rfl,rfl,h45_1,h45_13,h45_14,h45_15,h45_30,h45_31,rfl,rfl,(by omega),(Eg p45_1 (by
 exact Xj w (Fz.2 T) p45_2 I)),(.inr ⟨_,rfl,w⟩),(Als p45_3 w (by omega)),trivial⟩
   omega
  have R:=lZ0 l
  refine Bx (kk a5 ?_)
  refine Ag rfl rfl (l_v (Br h45_15 rfl (z:=(((i+1):Nat):Int)) wrE) (Av (iV ((i+1):Nat)) (Bj (Bxj B) (Ac ?_))))
  refine⟨_,?_,(i+1),rfl,rfl,rfl,rfl,h45_1,h45_13,h45_14,rfl,(by omega),(Eg p15_1 (by simp only[Jb,u,g,e,f,n,k,l,if_true];rw[if_neg (by omega),Fb fun j hj=>p45_1 j (by omega)])),trivial⟩
  omega
 have E:=lZ0 e
 refine Bx (kk a1 ?_)
 refine w_q rfl rfl fun bo an=>Au (iV 0) (l_k an (Aj (Bxj y) (Aq (x (rT (iV 0) ?_)))))
 rw[Jc,if_neg (by omega),Fb fun j hj=>p15_1 j (by omega)]
theorem Js{m:Market}{vm:Value}(rm:Val ρ vm m):CallsH (CX mn X) 29 #[vm] ρ σ (rP ρ σ (iV (Cf m))):=by
 refine Bq 25 [2] Tryz.func29 rfl fun Q c a0=>w_q rfl rfl fun L k=>Arv (Eb (v:=vm) rfl fun k2=>?_)
 refine Bb (a:=m) rm fun a5 d f=>Au (iV 0) (Ary rfl rfl k fun Y Z B C=>Arw (Ba Market.f_houses Btt rfl Hw f) fun v5 J=>Arw (Ax Hw rfl J) fun v6 K=>Arv (Bw (Mf K) Bxg ?_))
 refine Au (iV (Dd m.houses 5)) (Arx rfl rfl C fun K7 D=>Av (iV (Dd m.houses 5)) (l_v (Dg rfl rfl) (l_k D (Bf (t:=Dd m.houses 5 != 0) rfl (fun i=>?_) (fun i=>?_)))))
 ·have b:=Ls i
  refine w_q rfl rfl fun K9 E=>Av (iV (Dd m.houses 5)) (Au (iV (Dd m.houses 5)) (l_k E (Aj (Bxj d) (Aq (c (rT (iV (Dd m.houses 5)) ?_))))))
  rw[Cf,Ry b]
 have b:=Jh i
 refine Al (kk B ?_)
 refine Asb rfl rfl fun M N l n=>Arw (Ba Market.f_marks Btt rfl Hw f) fun a1 F=>Arw (Ax Hw rfl F) fun a2 G=>Arv (Bw (Mf G) Bxg ?_)
 refine Au (iV (Dd m.marks 4)) (Arx rfl rfl n fun O p=>Av (iV (Dd m.marks 4)) (l_v (Dg rfl rfl) (l_k p (Bf (t:=Dd m.marks 4 != 0) rfl (fun g=>?_) (fun g=>?_)))))
 ·have e:=Ls g
  refine w_q rfl rfl fun P q=>Av (iV (Dd m.marks 4)) (Au (iV (Dd m.marks 4)) (l_k q (Aj (Bxj d) (Aq (c (rT (iV (Dd m.marks 4)) ?_))))))
  rw[Cf,Gr b,Ry e]
 have e:=Jh g
 refine Al (kk l ?_)
 refine Asb rfl rfl fun R T u w=>Arw (Ax Ln rfl f) fun a3 H=>Arv (Bw (Vc H) Tryz.func82 ?_)
 refine Au (iV (Ew m)) (Arx rfl rfl w fun U x=>Av (iV (Ew m)) (l_v (Dg rfl rfl) (l_k x (Bf (t:=Ew m != 0) rfl (fun h=>?_) (fun h=>?_)))))
 ·have j:=Ls h
  refine w_q rfl rfl fun V y=>Av (iV (Ew m)) (Au (iV (Ew m)) (l_k y (Aj (Bxj d) (Aq (c (rT (iV (Ew m)) ?_))))))
  rw[Cf,Gr b,Gr e,Ry j]
 have j:=Jh h
 refine Al (kk u ?_)
 refine w_q rfl rfl fun W z=>Arw (Ax Ln rfl f) fun a4 I=>Arv (Bw (Wy I) Tryz.func83 ?_)
 refine Au (iV (Jc m)) (l_k z (Aj (Bxj d) (Aq (c (rT (iV (Jc m)) ?_)))))
 rw[Cf,Gr b,Gr e,Gr j]
end
section
open Go
def Rp(l:Lab)(s:ByteArray)(k:Nat):Bool:=match l.tests[k]? with|some x=>x.name.toList==s.toList|none=>false
def Nk(t:FTest)(k:Nat):Int:=match t.sees[k]? with|some b=>if decide (b<0)||decide (b>2) then 1 else 0|none=>0
def Hb(l:Lab)(i:Nat):Int:=match l.tests[i]? with
 | none=>0
 | some t=>if Hg t.name then (if (Cl i (Rp l t.name)).isSome then 5 else if (t.sees.length:Int)=(l.kinds.length:Int) then Hl t.sees.length (Nk t) else 2) else 4
def Jy(l:Lab):Int:=if inR l.most 0 (l.kinds.length:Int) then (if (l.tests.length:Int)>5 then 2 else Hl l.tests.length (Hb l)) else 1
def Gh(l:Lab):Int:=orF (Dd l.kinds 4) (Jy l)
theorem Zn{l:Lab}{i:Nat}{s:ByteArray}:inL ((l.tests.map FTest.name).take i) s=true↔(Cl i (Rp l s)).isSome=true:=by
 rw[←Azt,←Azt,Fs]
 apply not_congr
 unfold inL
 rw[Azu]
 constructor
 ·intro h j hj
  unfold Rp
  cases hx:l.tests[j]? with
  | none=>rfl
  | some x =>
   have:=h x.name (Hd (i:=j) (by rw[Aez,if_pos hj,Tp,hx];rfl))
   simp only[beq_iff_eq]at this
   simp only[beq_eq_false_iff_ne,ne_eq]
   exact fun e=>this e.symm
 ·intro h x hx
  obtain⟨j,hj⟩:=Bcn hx
  rw[Aez]at hj
  split at hj
  ·rename_i hlt
   rw[Tp]at hj
   obtain⟨y,hy,rfl⟩:=Bgj.1 hj
   have:=h j hlt
   unfold Rp at this
   rw[hy]at this
   simp only[beq_eq_false_iff_ne,ne_eq]at this
   simp only[beq_iff_eq]
   exact fun e=>this e.symm
  ·cases hj
theorem Og{l:Lab}{i:Nat}{s:ByteArray}(h:inL ((l.tests.map FTest.name).take i) s=false):(Cl i (Rp l s)).isSome=false:=by
 cases hh:(Cl i (Rp l s)).isSome with
 | false=>rfl
 | true=>rw[Zn.2 hh]at h;cases h
theorem Vb{l:Lab}{i:Nat}{s:ByteArray}(h:∀j,j<i→Rp l s j=false):(Cl i (Rp l s)).isSome=false:=Fs.2 h
theorem Avh{l:Lab}{i k:Nat}{s:ByteArray}(hk:k<i)(h:Rp l s k=true):(Cl i (Rp l s)).isSome=true:=by
 cases hh:(Cl i (Rp l s)).isSome with
 | true=>rfl
 | false=>rw[Fs.1 hh k hk]at h;cases h
end
section
open Go
variable{mn:Bool}{X:Frame→List Frame→Ro→Own→Cy→Prop}{ρ:Ro}{σ:Own}
theorem Amc{l:Lab}{vl:Value}(rl:Val ρ vl l):CallsH (CX mn X) 14 #[vl] ρ σ (rP ρ σ (iV (Gh l))):=by
 refine Bq 83 [2] Tryz.func14 rfl fun Q E dj=>w_q rfl rfl fun K1 k1=>Arv (Eb (v:=vl) rfl fun P=>?_)
 refine Bb (a:=l) rl fun c4 F C=>Au (iV 0) (Ary rfl rfl k1 fun K3 K4 k3 k4=>Arw (Ba Lab.f_kinds Btv rfl Hw C) fun v5 r5=>Arw (Ax Hw rfl r5) fun v6 r6=>Arv (Bw (Aqd r6) Bxe ?_))
 refine Au (iV (Dd l.kinds 4)) (Arx rfl rfl k4 fun K7 k7=>Av (iV (Dd l.kinds 4)) (l_v (Dg rfl rfl) (l_k k7 (Bf (t:=Dd l.kinds 4 != 0) rfl (fun u=>?_) (fun u=>?_)))))
 ·have y:=Ls u
  refine w_q rfl rfl fun K9 k9=>Av (iV (Dd l.kinds 4)) (Au (iV (Dd l.kinds 4)) (l_k k9 (Aj (Bxj F) (Aq (E (rT (iV (Dd l.kinds 4)) ?_))))))
  rw[Gh,Ry y]
 have y:=Jh u
 refine Al (kk k3 ?_)
 refine Asb rfl rfl fun c5 c8 ag aj=>Arw (Ba Lab.f_most Btv rfl ty3 C) fun dm a1=>?_
 have⟨d4,d5⟩:=At.rng a1
 refine l_v (Bc ty3 rfl a1) (Arw (Ba Lab.f_kinds Btv rfl Hw C) fun dn bl=>Arw (Ax Hw rfl bl) fun dp a2=>?_)
 have d6:=Bxo a2
 refine l_v (Ci (el:=9) Bts rfl a2) (Arv (Bw Beo Bwk ?_))
 refine l_v (Iy rfl) (l_k aj (Bf (t:=!(inR l.most 0 (l.kinds.length:Int))) rfl (fun e=>?_) (fun e=>?_)))
 ·have ae:=not_eq_t e
  have bg:=Vw.1 ae
  refine w_q rfl rfl fun c9 ak=>Au (iV 1) (l_k ak (Aj (Bxj F) (Aq (E (rT (iV 1) ?_)))))
  have hi:inR l.most 0 (l.kinds.length:Int)=false:=Vw.2 bg
  rw[Gh,Gr y,Jy,hi];rfl
 have x:=not_eq_f e
 have G:=Fz.1 x
 refine Al (kk ag ?_)
 refine Asb rfl rfl fun ca cb al am=>Arw (Ba Lab.f_tests Btv rfl Vi C) fun dq bm=>Arw (Ax Vi rfl bm) fun dr a3=>?_
 have d7:=Bxo a3
 refine l_v (Ci (el:=46) Bua rfl a3) (l_v (Gl rfl rfl) (l_k am (Bf (t:=decide ((l.tests.length:Int)>5)) rfl (fun f=>?_) (fun f=>?_))))
 ·have R:=lZ1 f
  refine w_q rfl rfl fun cc an=>Au (iV 2) (l_k an (Aj (Bxj F) (Aq (E (rT (iV 2) ?_)))))
  have hi:inR l.most 0 (l.kinds.length:Int)=true:=Fz.2 G
  rw[Gh,Gr y,Jy,hi,if_pos rfl,if_pos (by omega)]
 have R:=lZ0 f
 refine Al (kk al ?_)
 refine Asb rfl rfl fun cd ce ao ap=>Au (iV 0) (l_k ap (Ao (Cc (fun mm ee dd ρ' σ'=>∃(i:Nat),(l.tests.length-i)=mm∧[]=dd∧c4=ρ'∧σ=σ'∧ee 1=pV P∧ee 4=iV i∧(i≤l.tests.length)∧(∀j,j<i→Hb l j=0)∧True) (m:=_) ⟨0,rfl,rfl,rfl,rfl,rfl,rfl,Gn _,fun j h=>absurd h (Sg _),trivial⟩ ?_)))
 rintro m30 e30 _ _ _ ⟨i,rfl,rfl,rfl,rfl,h30_1,h30_4,p30_0,p30_1,_⟩
 refine Asb rfl rfl fun cf cg aq ar=>l_v (Ah (v:=iV i) h30_4) (Arw (Ba Lab.f_tests Btv rfl Vi C h30_1) fun ds bn=>Arw (Ax Vi rfl bn) fun dt a4=>?_)
 have d8:=Bxo a4
 refine l_v (Ci (el:=46) Bua rfl a4) (l_v (Da rfl rfl) (l_k ar (Bf (t:=decide ((i:Int)<(l.tests.length:Int))) rfl (fun g=>?_) (fun g=>?_))))
 ·have T:=lZ1 g
  refine Al (kk aq ?_)
  refine Ai fun ch au=>Ao (w_q rfl rfl fun ci av=>Arw (Ba Lab.f_tests Btv rfl Vi C h30_1) fun du bo=>Arw (Ax Vi rfl bo) fun dv bp=>l_v (Ah (v:=iV i) h30_4) ?_)
  obtain⟨d,H⟩:=Ed (xs:=l.tests) (i:=i) (by omega)
  refine Arw (Ch i Bua Um rfl bp (q:=(i:Int)) rfl rfl H) fun dw bq=>Arw (Ax Um rfl bq) fun c3 a5=>Arv (Ct Ws fun Y=>?_)
  refine Cx rfl (Dv (v:=c3) (a:=d) (c:=Aag) Um rfl rfl a5 rfl ?_)
  refine Bb (a:=d) a5 fun ad I L=>?_
  replace C:=At.mono I C
  refine Ary rfl rfl av fun cj ck aw ax=>Arw (Ba FTest.f_name Bub rfl ty9 L) fun dx a6=>?_
  have d9:=At.slen a6
  refine l_v (Pk ty9 rfl a6) (Arv (Bw Awj Bxf ?_))
  refine l_v (Iy rfl) (l_k ax (Bf (t:=!(Hg d.name)) rfl (fun n=>?_) (fun n=>?_)))
  ·have af:=not_eq_t n
   refine w_q rfl rfl fun cl ay=>Au (iV 4) (l_k ay (Aj (Bxj (Bxn F I)) (Aq (E (rT (iV 4) ?_)))))
   have hi:inR l.most 0 (l.kinds.length:Int)=true:=Fz.2 G
   have hf:Hb l i=4:=by
    simp[Hb,H,u,e,x,f,g,n,af]
   rw[Gh,Gr y,Jy,hi,if_pos rfl,if_neg (by omega),Db p30_1 (by omega) hf (by omega)]
  have z:=not_eq_f n
  refine Al (kk aw ?_)
  refine Asb rfl rfl fun cm cn az b0=>Au (iV 0) (l_k b0 (Ao (Cc (fun mm ee dd ρ' σ'=>∃(k:Nat),(i-k)=mm∧[]=dd∧ad=ρ'∧σ=σ'∧ee 1=pV P∧ee 4=iV i∧ee 5=pV Y∧ee 6=iV k∧(k≤i)∧(∀j,j<k→Rp l d.name j=false)∧True) (m:=_) ⟨0,rfl,rfl,rfl,rfl,h30_1,h30_4,rfl,rfl,Gn _,fun j h=>absurd h (Sg _),trivial⟩ ?_)))
  rintro m56 e56 _ _ _ ⟨k,rfl,rfl,rfl,rfl,h56_1,h56_4,h56_5,h56_6,p56_0,p56_1,_⟩
  refine Asb rfl rfl fun co cp b1 b2=>l_v (Ah (v:=iV k) h56_6) (l_v (Ah (v:=iV i) h56_4) (l_v (Da rfl rfl) (l_k b2 (Bf (t:=decide ((k:Int)<(i:Int))) rfl (fun w=>?_) (fun w=>?_)))))
  ·have U:=lZ1 w
   refine Al (kk b1 ?_)
   refine Ai fun cq b3=>Ao (Ai fun cr b4=>Pr (De 0 Anu rfl (Ba Lab.f_tests Btv rfl Vi C h56_1) fun dy br=>De 1 Anv rfl (Ax Vi rfl br) fun dz bt=>Bu 2 Aoh rfl (Ah (v:=iV k) h56_6) ?_))
   obtain⟨W,O⟩:=Ed (xs:=l.tests) (i:=k) (by omega)
   refine De 3 Aoi rfl (Ch k Bua Um rfl bt (q:=(k:Int)) rfl rfl O) fun e0 bu=>De 4 Aoj rfl (Ba FTest.f_name Bub rfl ty9 bu) fun e1 a7=>?_
   have da:=At.slen a7
   refine Bu 5 Anw rfl (Pk ty9 rfl a7) (Ho 6 Anx rfl (Ba FTest.f_name Bub rfl ty9 L h56_5) fun e2 a8=>?_)
   have db:=At.slen a8
   refine Cj 7 Anz rfl (Pk ty9 rfl a8) (Cj 8 Aoa rfl (Avv (p:=W.name) (q:=d.name) rfl rfl) (Ec rfl (kk b4 ?_)))
   refine Bf (t:=(W.name).toList==(d.name).toList) rfl (fun K=>?_) (fun K=>?_)
   ·have V:=Jr K
    refine w_q rfl rfl fun cs b5=>Au (iV 5) (l_k b5 (Aj (Bxj (Bxn F I)) (Aq (E (rT (iV 5) ?_)))))
    have hi:inR l.most 0 (l.kinds.length:Int)=true:=Fz.2 G
    have hf:Hb l i=5:=by
     have htw:=Avh (show k<i by omega) (show Rp l d.name k=true by simp[Rp,O,u,e,x,f,g,n,z,w,K,y,G,R,T,U,V])
     simp[Hb,H,htw,u,e,x,f,g,n,z,w,K]
    rw[Gh,Gr y,Jy,hi,if_pos rfl,if_neg (by omega),Db p30_1 (by omega) hf (by omega)]
   have V:=Jq K
   refine Al (kk b3 ?_)
   refine Ag rfl rfl (l_v (Ah (v:=iV k) h56_6) (l_v (Cw (((k+1):Nat):Int)) (Au (iV ((k+1):Nat)) (Ac ?_))))
   refine⟨_,?_,(k+1),rfl,rfl,rfl,rfl,h56_1,h56_4,h56_5,rfl,(by omega),(Eg p56_1 (by simp[Rp,O,u,e,x,f,g,n,z,w,K,y,G,R,T,U,V])),trivial⟩
   omega
  have U:=lZ0 w
  refine Bx (kk az ?_)
  refine Asb rfl rfl fun ct cu b6 b7=>Arw (Ba FTest.f_sees Bub rfl Afp L h56_5) fun e3 bv=>Arw (Ax Afp rfl bv) fun e4 a9=>?_
  have dc:=Bxo a9
  refine l_v (Ci (el:=75) Bui rfl a9) (Arw (Ba Lab.f_kinds Btv rfl Hw C h56_1) fun e5 bx=>Arw (Ax Hw rfl bx) fun e6 aa=>?_)
  have de:=Bxo aa
  refine l_v (Ci (el:=9) Bts rfl aa) (l_v (Dg rfl rfl) (l_k b7 (Bf (t:=(d.sees.length:Int) != (l.kinds.length:Int)) rfl (fun B=>?_) (fun B=>?_))))
  ·have bh:=Ls B
   refine w_q rfl rfl fun cv b9=>Au (iV 2) (l_k b9 (Aj (Bxj (Bxn F I)) (Aq (E (rT (iV 2) ?_)))))
   have hi:inR l.most 0 (l.kinds.length:Int)=true:=Fz.2 G
   have hf:Hb l i=2:=by
    have htw:=(Vb fun j hj=>p56_1 j (by omega):(Cl i (Rp l d.name)).isSome=false)
    simp only[Hb,H,htw,u,e,x,f,g,n,z,w,B,if_true,Aey,if_false]
    rw[if_neg (by omega)]
   rw[Gh,Gr y,Jy,hi,if_pos rfl,if_neg (by omega),Db p30_1 (by omega) hf (by omega)]
  have bh:=Jh B
  refine Al (kk b6 ?_)
  refine w_q rfl rfl fun cw ba=>Au (iV 0) (l_k ba (Ao (Cc (fun mm ee dd ρ' σ'=>∃(q:Nat),(d.sees.length-q)=mm∧[]=dd∧ad=ρ'∧σ=σ'∧ee 1=pV P∧ee 4=iV i∧ee 5=pV Y∧ee 7=iV q∧(q≤d.sees.length)∧(∀j,j<q→Nk d j=0)∧True) (m:=_) ⟨0,rfl,rfl,rfl,rfl,h56_1,h56_4,h56_5,rfl,Gn _,fun j h=>absurd h (Sg _),trivial⟩ ?_)))
  rintro m83 e83 _ _ _ ⟨q,rfl,rfl,rfl,rfl,h83_1,h83_4,h83_5,h83_7,p83_0,p83_1,_⟩
  refine Asb rfl rfl fun cx cy bb bc=>l_v (Ah (v:=iV q) h83_7) (Arw (Ba FTest.f_sees Bub rfl Afp L h83_5) fun e7 bz=>Arw (Ax Afp rfl bz) fun e8 ab=>?_)
  have df:=Bxo ab
  refine l_v (Ci (el:=75) Bui rfl ab) (l_v (Da rfl rfl) (l_k bc (Bf (t:=decide ((q:Int)<(d.sees.length:Int))) rfl (fun D=>?_) (fun D=>?_))))
  ·have bi:=lZ1 D
   refine Al (kk bb ?_)
   refine Ai fun cz bd=>Ao (w_q rfl rfl fun d0 Z=>Arw (Ba FTest.f_sees Bub rfl Afp L h83_5) fun e9 c0=>Arw (Ax Afp rfl c0) fun ea c1=>l_v (Ah (v:=iV q) h83_7) ?_)
   obtain⟨N,M⟩:=Ed (xs:=d.sees) (i:=q) (by omega)
   refine Arw (Ch q Bui Pi rfl c1 (q:=(q:Int)) rfl rfl M) fun eb ac=>?_
   have⟨dh,di⟩:=At.rng ac
   refine l_v (Bc Pi rfl ac) (l_v (Da rfl rfl) (Av (.bool (decide (N<0))) (Cn (decide (N<0)) (fun b=>?_) (fun b=>?_))))
   ·have bj:=lZ1 b
    refine Ap (gN rfl b) (Ap (gN rfl b) (Ap (gN rfl b) (Ap (gN rfl b) (Ap (gN rfl b) (Ap (gN rfl b) (l_v (Bt rfl b (v:=bT) rfl) (l_k Z (Co rfl rfl (w_q rfl rfl fun d1 be=>Au (iV 1) (l_k be (Aj (Bxj (Bxn F I)) (Aq (E (rT (iV 1) ?_))))))))))))))
    have hi:inR l.most 0 (l.kinds.length:Int)=true:=Fz.2 G
    have hf:Hb l i=1:=by
     have htw:=(Vb fun j hj=>p56_1 j (by omega):(Cl i (Rp l d.name)).isSome=false)
     have hq:Nk d q=1:=by simp only[Nk,M,u,e,x,f,g,n,z,w,B,D,b,Ii,Iv,Jt,Jm,Lb,Hz,Iz,Jw,Ix,Jo];rfl
     simp only[Hb,H,htw,u,e,x,f,g,n,z,w,B,D,b,if_true,Aey,if_false]
     rw[if_pos (by omega),Db p83_1 (by omega) hq (by omega)]
    rw[Gh,Gr y,Jy,hi,if_pos rfl,if_neg (by omega),Db p30_1 (by omega) hf (by omega)]
   have bj:=lZ0 b
   refine Ak (gY rfl b) (Ba FTest.f_sees Bub rfl Afp L h83_5) fun ec c2=>Ak (gY rfl b) (Ax Afp rfl c2) fun dk bk=>Aa (gY rfl b) (Ah (v:=iV q) h83_7) (Ak (gY rfl b) (Ch q Bui Pi rfl bk (q:=(q:Int)) rfl rfl M) fun dl a0=>?_)
   have⟨d2,d3⟩:=At.rng a0
   refine Aa (gY rfl b) (Bc Pi rfl a0) (Aa (gY rfl b) (Gl rfl rfl) (l_v (Bn rfl b (v:=.bool (decide (N>2))) rfl) (l_k Z (Bf (t:=decide (N>2)) rfl (fun J=>?_) (fun J=>?_)))))
   ·have bf:=lZ1 J
    refine w_q rfl rfl fun c6 ah=>Au (iV 1) (l_k ah (Aj (Bxj (Bxn F I)) (Aq (E (rT (iV 1) ?_)))))
    have hi:inR l.most 0 (l.kinds.length:Int)=true:=Fz.2 G
    have hf:Hb l i=1:=by
     have htw:=(Vb fun j hj=>p56_1 j (by omega):(Cl i (Rp l d.name)).isSome=false)
     have hq:Nk d q=1:=by simp only[Nk,M,u,e,x,f,g,n,z,w,B,D,b,J,Ii,Iv,Jt,Jm,Lb,Hz,Iz,Jw,Ix,Jo];rfl
     simp only[Hb,H,htw,u,e,x,f,g,n,z,w,B,D,b,J,if_true,Aey,if_false]
     rw[if_pos (by omega),Db p83_1 (by omega) hq (by omega)]
    rw[Gh,Gr y,Jy,hi,if_pos rfl,if_neg (by omega),Db p30_1 (by omega) hf (by omega)]
   have bf:=lZ0 J
   refine Al (kk bd ?_)
   refine Ag rfl rfl (l_v (Ah (v:=iV q) h83_7) (l_v (Cw (((q+1):Nat):Int)) (Au (iV ((q+1):Nat)) (Ac ?_))))
   refine⟨_,?_,(q+1),rfl,rfl,rfl,rfl,h83_1,h83_4,h83_5,rfl,(by omega),(Eg p83_1 (by simp only[Nk,M,u,e,x,f,g,n,z,w,B,D,b,J,Ii,Iv,Jt,Jm,Lb,Hz,Iz,Jw,Ix,Jo];rfl)),trivial⟩
   omega
  have bi:=lZ0 D
  refine Bx (kk au ?_)
  refine Ag rfl rfl (l_v (Ah (v:=iV i) h83_4) (l_v (Cw (((i+1):Nat):Int)) (Au (iV ((i+1):Nat)) (Bj (Bxj I) (Ac ?_)))))
  refine⟨_,?_,((i+1)),rfl,rfl,rfl,rfl,h83_1,rfl,(by omega),(Eg p30_1 (by
 have htw:=(Vb fun j hj=>p56_1 j (by omega):(Cl i (Rp l d.name)).isSome=false)
 simp only[Hb,H,htw,u,e,x,f,g,n,z,w,B,D,if_true,Aey,if_false]
 rw[if_pos (by omega),Fb fun j hj=>p83_1 j (by omega)])),trivial⟩
  omega
 have T:=lZ0 g
 refine Bx (kk ao ?_)
 refine w_q rfl rfl fun c7 ai=>Au (iV 0) (l_k ai (Aj (Bxj F) (Aq (E (rT (iV 0) ?_)))))
 have hi:inR l.most 0 (l.kinds.length:Int)=true:=Fz.2 G
 rw[Gh,Gr y,Jy,hi,if_pos rfl,if_neg (by omega),Fb fun j hj=>p30_1 j (by omega)]
theorem Aaz{l:Lab}{vl:Value}(rl:Val ρ vl l):CallsH (CX mn X) 28 #[vl] ρ σ (rP ρ σ (iV (Gh l))):=by
 refine Bq 66 [2] Tryz.func28 rfl fun Q y cx=>w_q rfl rfl fun K1 k1=>Arv (Eb (v:=vl) rfl fun W=>?_)
 refine Bb (a:=l) rl fun bm B E=>Au (iV 0) (Ary rfl rfl k1 fun K3 K4 k3 k4=>Arw (Ba Lab.f_kinds Btv rfl Hw E) fun v5 r5=>Arw (Ax Hw rfl r5) fun v6 r6=>Arv (Bw (Mf r6) Bxg ?_))
 refine Au (iV (Dd l.kinds 4)) (Arx rfl rfl k4 fun K7 k7=>Av (iV (Dd l.kinds 4)) (l_v (Dg rfl rfl) (l_k k7 (Bf (t:=Dd l.kinds 4 != 0) rfl (fun n=>?_) (fun n=>?_)))))
 ·have w:=Ls n
  refine w_q rfl rfl fun K9 k9=>Av (iV (Dd l.kinds 4)) (Au (iV (Dd l.kinds 4)) (l_k k9 (Aj (Bxj B) (Aq (y (rT (iV (Dd l.kinds 4)) ?_))))))
  rw[Gh,Ry w]
 have w:=Jh n
 refine Al (kk k3 ?_)
 refine Ai fun bo aa=>Ao (w_q rfl rfl fun bp ab=>Arw (Ba Lab.f_most Btv rfl ty3 E) fun cz Z=>?_)
 have⟨cm,cn⟩:=At.rng Z
 refine l_v (Bc ty3 rfl Z) (Arw (Ba Lab.f_kinds Btv rfl Hw E) fun d0 bd=>Arw (Ax Hw rfl bd) fun d1 a0=>?_)
 have co:=Bxo a0
 refine l_v (Ci (el:=9) Bts rfl a0) (Arv (Bw Jl Bvv ?_))
 refine l_v (Iy rfl) (Au (.bool (!(inR l.most 0 (l.kinds.length:Int)))) (l_k ab (Bf (t:=!(inR l.most 0 (l.kinds.length:Int))) rfl (fun e=>?_) (fun e=>?_))))
 ·have a9:=not_eq_t e
  have b5:=Vw.1 a9
  refine w_q rfl rfl fun bq ac=>Au (iV 1) (l_k ac (Aj (Bxj B) (Aq (y (rT (iV 1) ?_)))))
  have hi:inR l.most 0 (l.kinds.length:Int)=false:=Vw.2 b5
  rw[Gh,Gr w,Jy,hi];rfl
 have p:=not_eq_f e
 have I:=Fz.1 p
 refine w_q rfl rfl fun br ad=>Arw (Ba Lab.f_tests Btv rfl Vi E) fun d2 be=>Arw (Ax Vi rfl be) fun d3 a1=>?_
 have cp:=Bxo a1
 refine l_v (Ci (el:=46) Bua rfl a1) (l_v (Gl rfl rfl) (Au (.bool (decide ((l.tests.length:Int)>5))) (l_k ad (Bf (t:=decide ((l.tests.length:Int)>5)) rfl (fun f=>?_) (fun f=>?_)))))
 ·have b6:=lZ1 f
  refine w_q rfl rfl fun bt ae=>Au (iV 2) (l_k ae (Aj (Bxj B) (Aq (y (rT (iV 2) ?_)))))
  have hi:inR l.most 0 (l.kinds.length:Int)=true:=Fz.2 I
  rw[Gh,Gr w,Jy,hi,if_pos rfl,if_pos (by omega)]
 have b6:=lZ0 f
 refine Al (kk aa ?_)
 refine w_q rfl rfl fun bu af=>Arv (Oh fun G=>?_)
 refine Au (.map (some G)) (Ary rfl rfl af fun bv bx ag ah=>Arw (Ba Lab.f_tests Btv rfl Vi E) fun d4 bf=>Arw (Ax Vi rfl bf) fun a7 P=>?_)
 have cq:=Bxo P
 refine l_v (Ci (el:=46) Bua rfl P) (Av (iV 0) (l_k ah (Ao (Cc (fun mm ee dd ρ' σ'=>∃(i:Nat) (es34_4:Array MapEntry) (ck34_4:Nat),(l.tests.length-i)=mm∧[]=dd∧bm=ρ'∧((G,Res.obj (Obj.map es34_4 ck34_4))::σ)=σ'∧ee 1=pV W∧ee 31=a7∧ee 32=(iV (l.tests.length:Int))∧ee 4=(.map (some G))∧ee 33=iV i∧(i≤l.tests.length)∧(∀j,j<i→Hb l j=0)∧Mu es34_4 (inL ((l.tests.map FTest.name).take i))∧True) (m:=_) ⟨0,#[],0,rfl,rfl,rfl,rfl,rfl,rfl,rfl,rfl,rfl,Gn _,fun j h=>absurd h (Sg _),Rl (fun k=>by simp[inL]) Uh,trivial⟩ ?_))))
 rintro m34 e34 _ _ _ ⟨i,es34_4,ck34_4,rfl,rfl,rfl,rfl,h34_1,h34_31,h34_32,h34_4,h34_33,p34_0,p34_1,MS34_4,_⟩
 refine w_q rfl rfl fun bz ai=>l_v (Da h34_33 h34_32) (Asa ai fun c0 aj=>Bf (t:=decide ((i:Int)<(l.tests.length:Int))) rfl (fun g=>?_) (fun g=>?_))
 ·have b7:=lZ1 g
  refine Al (kk aj ?_)
  refine Ai fun c1 ak=>Ao (w_q rfl rfl fun c2 al=>?_)
  obtain⟨d,C⟩:=Ed (xs:=l.tests) (i:=i) (by omega)
  refine Arw (Ch i Bua Um h34_31 P (q:=(i:Int)) h34_33 rfl C) fun d5 bg=>Arw (Ax Um rfl bg) fun bk a2=>Arv (Ct Ws fun cy=>?_)
  refine Cx rfl (Dv (v:=bk) (a:=d) (c:=Aag) Um rfl rfl a2 rfl ?_)
  refine Bb (a:=d) a2 fun bn H R=>?_
  replace E:=At.mono H E
  refine Ary rfl rfl al fun c3 c4 am O=>l_v (Ah (v:=.map (some G)) h34_4) (Arw (Ba FTest.f_name Bub rfl ty9 R) fun d6 a3=>?_)
  have cr:=At.slen a3
  refine l_v (Pk ty9 rfl a3) (Arv (Cm (vs:=[.map (some G),.string d.name]) (Wx (i:=0) MS34_4 rfl (by omega)) Bxh rfl rfl ⟨rfl,rfl,trivial⟩ fun de df dh M=>?_))
  obtain⟨N,M⟩:=M
  replace N:=N.symm;subst N
  rcases M with⟨rfl,D,rfl⟩|⟨rfl,D,K,rfl⟩|⟨rfl,D,K,V,U,a8,rfl⟩
  ·refine Au (iV 4) (Arx rfl rfl O fun c5 an=>Av (iV 4) (l_v (Dg rfl rfl) (l_k an (Co rfl rfl (w_q rfl rfl fun c6 ao=>Av (iV 4) (Au (iV 4) (l_k ao (Aj Bxi (Aj (Bxj (Bxn B H)) (Aq (y (rT (iV 4) ?_))))))))))))
   have hi:inR l.most 0 (l.kinds.length:Int)=true:=Fz.2 I
   have hf:Hb l i=4:=by
    simp[Hb,C,D,n,e,p,f,g]
   rw[Gh,Gr w,Jy,hi,if_pos rfl,if_neg (by omega),Db p34_1 (by omega) hf (by omega)]
  ·refine Au (iV 5) (Arx rfl rfl O fun c7 ap=>Av (iV 5) (l_v (Dg rfl rfl) (l_k ap (Co rfl rfl (w_q rfl rfl fun c8 aq=>Av (iV 5) (Au (iV 5) (l_k aq (Aj Bxi (Aj (Bxj (Bxn B H)) (Aq (y (rT (iV 5) ?_))))))))))))
   have hi:inR l.most 0 (l.kinds.length:Int)=true:=Fz.2 I
   have hf:Hb l i=5:=by
    have htw:=Zn.1 K
    simp[Hb,C,D,htw,n,e,p,f,g]
   rw[Gh,Gr w,Jy,hi,if_pos rfl,if_neg (by omega),Db p34_1 (by omega) hf (by omega)]
  refine Au (iV 0) (Arx rfl rfl O fun c9 ar=>Av (iV 0) (l_v (Dg rfl rfl) (l_k ar (Cg rfl rfl (Al (kk am ?_))))))
  refine Asb rfl rfl fun ca cb au av=>Arw (Ba FTest.f_sees Bub rfl Afp R) fun d7 bh=>Arw (Ax Afp rfl bh) fun d8 a4=>?_
  have cs:=Bxo a4
  refine l_v (Ci (el:=75) Bui rfl a4) (Arw (Ba Lab.f_kinds Btv rfl Hw E h34_1) fun d9 bi=>Arw (Ax Hw rfl bi) fun da a5=>?_)
  have ct:=Bxo a5
  refine l_v (Ci (el:=9) Bts rfl a5) (l_v (Dg rfl rfl) (l_k av (Bf (t:=(d.sees.length:Int) != (l.kinds.length:Int)) rfl (fun u=>?_) (fun u=>?_))))
  ·have b9:=Ls u
   refine w_q rfl rfl fun cc aw=>Au (iV 2) (l_k aw (Aj Bxi (Aj (Bxj (Bxn B H)) (Aq (y (rT (iV 2) ?_))))))
   have hi:inR l.most 0 (l.kinds.length:Int)=true:=Fz.2 I
   have hf:Hb l i=2:=by
    have htw:=Og K
    simp only[Hb,C,D,htw,n,e,p,f,g,u,if_true,Aey,if_false]
    rw[if_neg (by omega)]
   rw[Gh,Gr w,Jy,hi,if_pos rfl,if_neg (by omega),Db p34_1 (by omega) hf (by omega)]
  have b9:=Jh u
  refine Al (kk au ?_)
  refine w_q rfl rfl fun cd ax=>Arw (Ba FTest.f_sees Bub rfl Afp R) fun db bj=>Arw (Ax Afp rfl bj) fun bl T=>?_
  have cu:=Bxo T
  refine l_v (Ci (el:=75) Bui rfl T) (Av (iV 0) (l_k ax (Ao (Cc (fun mm ee dd ρ' σ'=>∃(q:Nat),(d.sees.length-q)=mm∧[]=dd∧bn=ρ'∧((G,Res.obj (Obj.map V U))::σ)=σ'∧ee 1=pV W∧ee 4=(.map (some G))∧ee 31=a7∧ee 32=(iV (l.tests.length:Int))∧ee 33=iV i∧ee 52=bl∧ee 53=(iV (d.sees.length:Int))∧ee 54=iV q∧(q≤d.sees.length)∧(∀j,j<q→Nk d j=0)∧True) (m:=_) ⟨0,rfl,rfl,rfl,rfl,h34_1,h34_4,h34_31,h34_32,h34_33,rfl,rfl,rfl,Gn _,fun j h=>absurd h (Sg _),trivial⟩ ?_))))
  rintro m69 e69 _ _ _ ⟨q,rfl,rfl,rfl,rfl,h69_1,h69_4,h69_31,h69_32,h69_33,h69_52,h69_53,h69_54,p69_0,p69_1,_⟩
  refine w_q rfl rfl fun ce ay=>l_v (Da h69_54 h69_53) (Asa ay fun cf az=>Bf (t:=decide ((q:Int)<(d.sees.length:Int))) rfl (fun x=>?_) (fun x=>?_))
  ·have ba:=lZ1 x
   refine Al (kk az ?_)
   refine Ai fun cg b0=>Ao (w_q rfl rfl fun ch b1=>?_)
   obtain⟨F,L⟩:=Ed (xs:=d.sees) (i:=q) (by omega)
   refine Arw (Ch q Bui Pi h69_52 T (q:=(q:Int)) h69_54 rfl L) fun dc a6=>?_
   have⟨cv,cw⟩:=At.rng a6
   refine l_v (Bc Pi rfl a6) (Au (iV F) (Arx rfl rfl b1 fun ci Y=>Av (iV F) (l_v (Da rfl rfl) (Av (.bool (decide (F<0))) (Cn (decide (F<0)) (fun b=>?_) (fun b=>?_))))))
   ·have bb:=lZ1 b
    refine Ap (gN rfl b) (Ap (gN rfl b) (l_v (Bt rfl b (v:=bT) rfl) (l_k Y (Co rfl rfl (w_q rfl rfl fun cj b2=>Au (iV 1) (l_k b2 (Aj Bxi (Aj (Bxj (Bxn B H)) (Aq (y (rT (iV 1) ?_)))))))))))
    have hi:inR l.most 0 (l.kinds.length:Int)=true:=Fz.2 I
    have hf:Hb l i=1:=by
     have htw:=Og K
     have hq:Nk d q=1:=by simp only[Nk,L,n,e,p,f,g,u,x,b,Ii,Iv,Jt,Jm,Lb,Hz,Iz,Jw,Ix,Jo];rfl
     simp only[Hb,C,D,htw,n,e,p,f,g,u,x,b,if_true,Aey,if_false]
     rw[if_pos (by omega),Db p69_1 (by omega) hq (by omega)]
    rw[Gh,Gr w,Jy,hi,if_pos rfl,if_neg (by omega),Db p34_1 (by omega) hf (by omega)]
   have bb:=lZ0 b
   refine l_M (iV F) (gY rfl b) rfl (Aa (gY rfl b) (Gl rfl rfl) (l_v (Bn rfl b (v:=.bool (decide (F>2))) rfl) (l_k Y (Bf (t:=decide (F>2)) rfl (fun J=>?_) (fun J=>?_)))))
   ·have bc:=lZ1 J
    refine w_q rfl rfl fun ck b3=>Au (iV 1) (l_k b3 (Aj Bxi (Aj (Bxj (Bxn B H)) (Aq (y (rT (iV 1) ?_))))))
    have hi:inR l.most 0 (l.kinds.length:Int)=true:=Fz.2 I
    have hf:Hb l i=1:=by
     have htw:=Og K
     have hq:Nk d q=1:=by simp only[Nk,L,n,e,p,f,g,u,x,b,J,Ii,Iv,Jt,Jm,Lb,Hz,Iz,Jw,Ix,Jo];rfl
     simp only[Hb,C,D,htw,n,e,p,f,g,u,x,b,J,if_true,Aey,if_false]
     rw[if_pos (by omega),Db p69_1 (by omega) hq (by omega)]
    rw[Gh,Gr w,Jy,hi,if_pos rfl,if_neg (by omega),Db p34_1 (by omega) hf (by omega)]
   have bc:=lZ0 J
   refine Al (kk b0 ?_)
   refine Ag rfl rfl (l_v (Br h69_54 rfl (z:=(((q+1):Nat):Int)) wrE) (Av (iV ((q+1):Nat)) (Ac ?_)))
   refine⟨_,?_,(q+1),rfl,rfl,rfl,rfl,h69_1,h69_4,h69_31,h69_32,h69_33,h69_52,h69_53,rfl,(by omega),(Eg p69_1 (by simp only[Nk,L,n,e,p,f,g,u,x,b,J,Ii,Iv,Jt,Jm,Lb,Hz,Iz,Jw,Ix,Jo];rfl)),trivial⟩
   omega
  have ba:=lZ0 x
  refine Bx (kk ak ?_)
  refine Ag rfl rfl (l_v (Br h69_33 rfl (z:=(((i+1):Nat):Int)) wrE) (Av (iV ((i+1):Nat)) (Bj (Bxj H) (Ac ?_))))
  refine⟨_,?_,((i+1)),V,U,rfl,rfl,rfl,rfl,h69_1,h69_31,h69_32,h69_4,rfl,(by omega),(Eg p34_1 (by
 have htw:=Og K
 simp only[Hb,C,D,htw,n,e,p,f,g,u,x,if_true,Aey,if_false]
 rw[if_pos (by omega),Fb fun j hj=>p69_1 j (by omega)])),(Rl (Tq (by rw[Tp,C];rfl)) a8),trivial⟩
  omega
 have b7:=lZ0 g
 refine Bx (kk ag ?_)
 refine w_q rfl rfl fun cl b4=>Au (iV 0) (l_k b4 (Aj Bxi (Aj (Bxj B) (Aq (y (rT (iV 0) ?_))))))
 have hi:inR l.most 0 (l.kinds.length:Int)=true:=Fz.2 I
 rw[Gh,Gr w,Jy,hi,if_pos rfl,if_neg (by omega),Fb fun j hj=>p34_1 j (by omega)]
end
section
open Go
/-- A valid lab,told without codes. -/
structure LabOk(l:Lab):Prop where
 kinds:Dd l.kinds 4=0
 most:0≤l.most∧l.most≤(l.kinds.length:Int)
 ntests:l.tests.length≤5
 test:∀(i:Nat) (t:FTest),l.tests[i]?=some t→Hg t.name=true∧t.sees.length=l.kinds.length
theorem Ll{l:Lab}(h:Gh l=0):LabOk l:=by
 unfold Gh at h
 rw[Jx]at h
 obtain⟨c,a⟩:=h
 unfold Jy at a
 split at a
 ·rename_i hin
  split at a
  ·cases a
  ·rename_i hn
   rw[Fx]at a
   refine⟨c,Fz.1 hin,by omega,fun i t ht=>?_⟩
   have b:=a i (lZ8.1 ht).1
   simp only[Hb,ht]at b
   split at b
   ·rename_i ha
    split at b
    ·cases b
    ·split at b
     ·rename_i hb;exact⟨ha,by omega⟩
     ·cases b
   ·cases b
 ·cases a
end
section
open Go
variable{mn:Bool}{X:Frame→List Frame→Ro→Own→Cy→Prop}{ρ:Ro}{σ:Own}
theorem Bos{m:Market}{vm:Value}(rm:Val ρ vm m):CallsH (CX mn X) 6 #[vm] ρ σ (fun w ρ' σ'=>ρ'=ρ∧σ'=σ∧∃b,w = .bool b):=by
 refine Bq 101 [2] Tryz.func6 rfl fun Q g d3=>w_q rfl rfl fun K1 k1=>Arv (Eb (v:=vm) rfl fun p=>?_)
 refine Bb (a:=m) rm fun x h f=>Au bF (Ary rfl rfl k1 fun K3 K4 k3 u=>Arw (Ba Market.f_houses Btt rfl Hw f) fun v5 r5=>Arw (Ax Hw rfl r5) fun v6 P=>?_)
 have g7:=Bxo P
 refine l_v (Ci (el:=9) Bts rfl P) (l_v (Gl rfl rfl) (Av (.bool (decide ((m.houses.length:Int)>40))) (Cn (decide ((m.houses.length:Int)>40)) (fun e=>?_) (fun e=>?_))))
 ·have q8:=lZ1 e
  refine Ap (gN rfl e) (Ap (gN rfl e) (Ap (gN rfl e) (Ap (gN rfl e) (l_v (Bt rfl e (v:=bT) rfl) (Av bT (Ap (gN rfl rfl) (Ap (gN rfl rfl) (Ap (gN rfl rfl) (Ap (gN rfl rfl) (l_v (Bt rfl rfl (v:=bT) rfl) (Av bT (Ap (gN rfl rfl) (Ap (gN rfl rfl) (Ap (gN rfl rfl) (Ap (gN rfl rfl) (l_v (Bt rfl rfl (v:=bT) rfl) (l_k u (Co rfl rfl (w_q rfl rfl fun K9 k9=>Au bT (l_k k9 (Aj (Bxj h) (Aq (g ⟨rfl,rfl,_,rfl⟩)))))))))))))))))))))))
 have q8:=lZ0 e
 refine Ak (gY rfl e) (Ba Market.f_marks Btt rfl Hw f) fun d4 b7=>Ak (gY rfl e) (Ax Hw rfl b7) fun d5 I=>?_
 have cr:=Bxo I
 refine Aa (gY rfl e) (Ci (el:=9) Bts rfl I) (Aa (gY rfl e) (Gl rfl rfl) (l_v (Bn rfl e (v:=.bool (decide ((m.marks.length:Int)>40))) rfl) (Av (.bool (decide ((m.marks.length:Int)>40))) (Cn (decide ((m.marks.length:Int)>40)) (fun c=>?_) (fun c=>?_)))))
 ·have az:=lZ1 c
  refine Ap (gN rfl c) (Ap (gN rfl c) (Ap (gN rfl c) (Ap (gN rfl c) (l_v (Bt rfl c (v:=bT) rfl) (Av bT (Ap (gN rfl rfl) (Ap (gN rfl rfl) (Ap (gN rfl rfl) (Ap (gN rfl rfl) (l_v (Bt rfl rfl (v:=bT) rfl) (l_k u (Co rfl rfl (w_q rfl rfl fun bz a4=>Au bT (l_k a4 (Aj (Bxj h) (Aq (g ⟨rfl,rfl,_,rfl⟩)))))))))))))))))
 have az:=lZ0 c
 refine Ak (gY rfl c) (Ba Market.f_fields Btt rfl Se f) fun d6 b9=>Ak (gY rfl c) (Ax Se rfl b9) fun d7 J=>?_
 have cs:=Bxo J
 refine Aa (gY rfl c) (Ci (el:=51) Bue rfl J) (Aa (gY rfl c) (Gl rfl rfl) (l_v (Bn rfl c (v:=.bool (decide ((m.fields.length:Int)>40))) rfl) (Av (.bool (decide ((m.fields.length:Int)>40))) (Cn (decide ((m.fields.length:Int)>40)) (fun d=>?_) (fun d=>?_)))))
 ·have b0:=lZ1 d
  refine Ap (gN rfl d) (Ap (gN rfl d) (Ap (gN rfl d) (Ap (gN rfl d) (l_v (Bt rfl d (v:=bT) rfl) (l_k u (Co rfl rfl (w_q rfl rfl fun c0 a5=>Au bT (l_k a5 (Aj (Bxj h) (Aq (g ⟨rfl,rfl,_,rfl⟩)))))))))))
 have b0:=lZ0 d
 refine Ak (gY rfl d) (Ba Market.f_sales Btt rfl Qn f) fun d8 ba=>Ak (gY rfl d) (Ax Qn rfl ba) fun d9 K=>?_
 have ct:=Bxo K
 refine Aa (gY rfl d) (Ci (el:=54) Buf rfl K) (Aa (gY rfl d) (Gl rfl rfl) (l_v (Bn rfl d (v:=.bool (decide ((m.sales.length:Int)>40))) rfl) (l_k u (Bf (t:=decide ((m.sales.length:Int)>40)) rfl (fun B=>?_) (fun B=>?_)))))
 ·have b1:=lZ1 B
  refine w_q rfl rfl fun c1 a6=>Au bT (l_k a6 (Aj (Bxj h) (Aq (g ⟨rfl,rfl,_,rfl⟩))))
 have b1:=lZ0 B
 refine Al (kk k3 ?_)
 refine w_q rfl rfl fun c2 a7=>Au (iV 0) (Ary rfl rfl a7 fun c3 c4 a8 a9=>Au (iV 0) (l_k a9 (Ao (Cc (fun mm ee dd ρ' σ'=>∃(i:Nat) (n:Int),(m.houses.length-i)=mm∧[]=dd∧x=ρ'∧σ=σ'∧ee 1=pV p∧ee 3=iV n∧ee 4=iV i∧(i≤m.houses.length)∧True) (m:=_) ⟨0,0,rfl,rfl,rfl,rfl,rfl,rfl,rfl,Gn _,trivial⟩ ?_))))
 rintro m28 e28 _ _ _ ⟨i,n,rfl,rfl,rfl,rfl,h28_1,h28_3,h28_4,p28_0,_⟩
 refine Asb rfl rfl fun c5 c6 aa ab=>l_v (Ah (v:=iV i) h28_4) (Arw (Ba Market.f_houses Btt rfl Hw f h28_1) fun da bb=>Arw (Ax Hw rfl bb) fun db L=>?_)
 have cu:=Bxo L
 refine l_v (Ci (el:=9) Bts rfl L) (l_v (Da rfl rfl) (l_k ab (Bf (t:=decide ((i:Int)<(m.houses.length:Int))) rfl (fun C=>?_) (fun C=>?_))))
 ·have b2:=lZ1 C
  refine Al (kk aa ?_)
  refine Ai fun c7 ac=>Ao (Ag rfl rfl (l_v (Ah (v:=iV n) h28_3) (Arw (Ba Market.f_houses Btt rfl Hw f h28_1) fun dc bc=>Arw (Ax Hw rfl bc) fun de bd=>l_v (Ah (v:=iV i) h28_4) ?_)))
  obtain⟨k,Z⟩:=Ed (xs:=m.houses) (i:=i) (by omega)
  refine Arw (Ch i Bts ty9 rfl bd (q:=(i:Int)) rfl rfl Z) fun df M=>?_
  have cv:=At.slen M
  refine l_v (Pk ty9 rfl M) (l_v (Afz Btr (s:=k) rfl) (l_v (Br rfl rfl (z:=IntKind.i64.wrap (n+(k.size:Int))) rfl) (Au (iV (IntKind.i64.wrap (n+(k.size:Int)))) (l_k ac (Ag rfl rfl (l_v (Ah (v:=iV i) h28_4) (l_v (Cw (((i+1):Nat):Int)) (Au (iV ((i+1):Nat)) (Ac ?_)))))))))
  refine⟨_,?_,(i+1),(IntKind.i64.wrap (n+(k.size:Int))),rfl,rfl,rfl,rfl,h28_1,rfl,rfl,(by omega),trivial⟩
  omega
 have b2:=lZ0 C
 refine Bx (kk a8 ?_)
 refine Asb rfl rfl fun c8 c9 ad ae=>Au (iV 0) (l_k ae (Ao (Cc (fun mm ee dd ρ' σ'=>∃(i:Nat) (n:Int),(m.marks.length-i)=mm∧[]=dd∧x=ρ'∧σ=σ'∧ee 1=pV p∧ee 3=iV n∧ee 5=iV i∧(i≤m.marks.length)∧True) (m:=_) ⟨0,n,rfl,rfl,rfl,rfl,h28_1,h28_3,rfl,Gn _,trivial⟩ ?_)))
 rintro m43 e43 _ _ _ ⟨i,n,rfl,rfl,rfl,rfl,h43_1,h43_3,h43_5,p43_0,_⟩
 refine Asb rfl rfl fun ca cb af ag=>l_v (Ah (v:=iV i) h43_5) (Arw (Ba Market.f_marks Btt rfl Hw f h43_1) fun dh be=>Arw (Ax Hw rfl be) fun di N=>?_)
 have cw:=Bxo N
 refine l_v (Ci (el:=9) Bts rfl N) (l_v (Da rfl rfl) (l_k ag (Bf (t:=decide ((i:Int)<(m.marks.length:Int))) rfl (fun D=>?_) (fun D=>?_))))
 ·have b3:=lZ1 D
  refine Al (kk af ?_)
  refine Ai fun cc ah=>Ao (Ag rfl rfl (l_v (Ah (v:=iV n) h43_3) (Arw (Ba Market.f_marks Btt rfl Hw f h43_1) fun dj bf=>Arw (Ax Hw rfl bf) fun dk bg=>l_v (Ah (v:=iV i) h43_5) ?_)))
  obtain⟨l,a0⟩:=Ed (xs:=m.marks) (i:=i) (by omega)
  refine Arw (Ch i Bts ty9 rfl bg (q:=(i:Int)) rfl rfl a0) fun dl O=>?_
  have cx:=At.slen O
  refine l_v (Pk ty9 rfl O) (l_v (Afz Btr (s:=l) rfl) (l_v (Br rfl rfl (z:=IntKind.i64.wrap (n+(l.size:Int))) rfl) (Au (iV (IntKind.i64.wrap (n+(l.size:Int)))) (l_k ah (Ag rfl rfl (l_v (Ah (v:=iV i) h43_5) (l_v (Cw (((i+1):Nat):Int)) (Au (iV ((i+1):Nat)) (Ac ?_)))))))))
  refine⟨_,?_,(i+1),(IntKind.i64.wrap (n+(l.size:Int))),rfl,rfl,rfl,rfl,h43_1,rfl,rfl,(by omega),trivial⟩
  omega
 have b3:=lZ0 D
 refine Bx (kk ad ?_)
 refine Asb rfl rfl fun cd ce ai aj=>Au (iV 0) (l_k aj (Ao (Cc (fun mm ee dd ρ' σ'=>∃(i:Nat) (n:Int),(m.fields.length-i)=mm∧[]=dd∧x=ρ'∧σ=σ'∧ee 1=pV p∧ee 3=iV n∧ee 6=iV i∧(i≤m.fields.length)∧True) (m:=_) ⟨0,n,rfl,rfl,rfl,rfl,h43_1,h43_3,rfl,Gn _,trivial⟩ ?_)))
 rintro m58 e58 _ _ _ ⟨i,n,rfl,rfl,rfl,rfl,h58_1,h58_3,h58_6,p58_0,_⟩
 refine Asb rfl rfl fun cf cg ak al=>l_v (Ah (v:=iV i) h58_6) (Arw (Ba Market.f_fields Btt rfl Se f h58_1) fun dm bh=>Arw (Ax Se rfl bh) fun dn R=>?_)
 have cy:=Bxo R
 refine l_v (Ci (el:=51) Bue rfl R) (l_v (Da rfl rfl) (l_k al (Bf (t:=decide ((i:Int)<(m.fields.length:Int))) rfl (fun E=>?_) (fun E=>?_))))
 ·have b4:=lZ1 E
  refine Al (kk ak ?_)
  refine Ai fun ch am=>Ao (Asb rfl rfl fun ci cj an ao=>Arw (Ba Market.f_fields Btt rfl Se f h58_1) fun dp bi=>Arw (Ax Se rfl bi) fun dq bj=>l_v (Ah (v:=iV i) h58_6) ?_)
  obtain⟨j,H⟩:=Ed (xs:=m.fields) (i:=i) (by omega)
  refine Arw (Ch i Bue Lo rfl bj (q:=(i:Int)) rfl rfl H) fun dr bk=>Arw (Ba FField.f_marks Btx rfl Uo bk) fun ds bl=>Arw (Ax Uo rfl bl) fun dt T=>?_
  have cz:=Bxo T
  refine l_v (Ci (el:=48) Bug rfl T) (l_v (Gl rfl rfl) (l_k ao (Bf (t:=decide ((j.marks.length:Int)>40)) rfl (fun F=>?_) (fun F=>?_))))
  ·have b5:=lZ1 F
   refine w_q rfl rfl fun ck ap=>Au bT (l_k ap (Aj (Bxj h) (Aq (g ⟨rfl,rfl,_,rfl⟩))))
  have b5:=lZ0 F
  refine Al (kk an ?_)
  refine Ag rfl rfl (l_v (Ah (v:=iV n) h58_3) (Arw (Ba Market.f_fields Btt rfl Se f h58_1) fun du bm=>Arw (Ax Se rfl bm) fun dv bn=>l_v (Ah (v:=iV i) h58_6) (Arw (Ch i Bue Lo rfl bn (q:=(i:Int)) rfl rfl H) fun dw bo=>Arw (Ba FField.f_name Btx rfl ty9 bo) fun dx U=>?_)))
  have d0:=At.slen U
  refine l_v (Pk ty9 rfl U) (l_v (Afz Btr (s:=j.name) rfl) (l_v (Br rfl rfl (z:=IntKind.i64.wrap (n+(j.name.size:Int))) rfl) (Au (iV (IntKind.i64.wrap (n+(j.name.size:Int)))) (l_k am (Ag rfl rfl (l_v (Ah (v:=iV i) h58_6) (l_v (Cw (((i+1):Nat):Int)) (Au (iV ((i+1):Nat)) (Ac ?_)))))))))
  refine⟨_,?_,(i+1),(IntKind.i64.wrap (n+(j.name.size:Int))),rfl,rfl,rfl,rfl,h58_1,rfl,rfl,(by omega),trivial⟩
  omega
 have b4:=lZ0 E
 refine Bx (kk ai ?_)
 refine Asb rfl rfl fun cl cm aq ar=>Au (iV 0) (l_k ar (Ao (Cc (fun mm ee dd ρ' σ'=>∃(i:Nat),(m.sales.length-i)=mm∧[]=dd∧x=ρ'∧σ=σ'∧ee 1=pV p∧ee 3=iV n∧ee 7=iV i∧(i≤m.sales.length)∧True) (m:=_) ⟨0,rfl,rfl,rfl,rfl,h58_1,h58_3,rfl,Gn _,trivial⟩ ?_)))
 rintro m84 e84 _ _ _ ⟨i,rfl,rfl,rfl,rfl,h84_1,h84_3,h84_7,p84_0,_⟩
 refine Asb rfl rfl fun cn co au av=>l_v (Ah (v:=iV i) h84_7) (Arw (Ba Market.f_sales Btt rfl Qn f h84_1) fun dy bp=>Arw (Ax Qn rfl bp) fun dz V=>?_)
 have d1:=Bxo V
 refine l_v (Ci (el:=54) Buf rfl V) (l_v (Da rfl rfl) (l_k av (Bf (t:=decide ((i:Int)<(m.sales.length:Int))) rfl (fun G=>?_) (fun G=>?_))))
 ·have b6:=lZ1 G
  refine Al (kk au ?_)
  refine Ai fun cp aw=>Ao (w_q rfl rfl fun cq ax=>Arw (Ba Market.f_sales Btt rfl Qn f h84_1) fun e0 bq=>Arw (Ax Qn rfl bq) fun e1 br=>l_v (Ah (v:=iV i) h84_7) ?_)
  obtain⟨Y,a1⟩:=Ed (xs:=m.sales) (i:=i) (by omega)
  refine Arw (Ch i Buf Up rfl br (q:=(i:Int)) rfl rfl a1) fun e2 bt=>Arw (Ba Sale.f_sellers Buh rfl Vh bt) fun e3 bu=>Arw (Ax Vh rfl bu) fun e4 W=>?_
  have d2:=Bxo W
  refine l_v (Ci (el:=3) Buk rfl W) (l_v (Gl rfl rfl) (l_k ax (Bf (t:=decide ((Y.sellers.length:Int)>40)) rfl (fun y=>?_) (fun y=>?_))))
  ·have ay:=lZ1 y
   refine w_q rfl rfl fun bv a2=>Au bT (l_k a2 (Aj (Bxj h) (Aq (g ⟨rfl,rfl,_,rfl⟩))))
  have ay:=lZ0 y
  refine Al (kk aw ?_)
  refine Ag rfl rfl (l_v (Ah (v:=iV i) h84_7) (l_v (Cw (((i+1):Nat):Int)) (Au (iV ((i+1):Nat)) (Ac ?_))))
  refine⟨_,?_,(i+1),rfl,rfl,rfl,rfl,h84_1,h84_3,rfl,(by omega),trivial⟩
  omega
 have b6:=lZ0 G
 refine Bx (kk aq ?_)
 refine w_q rfl rfl fun bx a3=>l_v (Ah (v:=iV n) h84_3) (l_v (Gl rfl rfl) (Au (.bool (decide (n>1000))) (l_k a3 (Aj (Bxj h) (Aq (g ⟨rfl,rfl,_,rfl⟩))))))
theorem Bke{l:Lab}{vl:Value}(rl:Val ρ vl l):CallsH (CX mn X) 5 #[vl] ρ σ (fun w ρ' σ'=>ρ'=ρ∧σ'=σ∧∃b,w = .bool b):=by
 refine Bq 57 [2] Tryz.func5 rfl fun Q g bb=>w_q rfl rfl fun K1 L=>Arv (Eb (v:=vl) rfl fun y=>?_)
 refine Bb (a:=l) rl fun J h d=>Au bF (Ary rfl rfl L fun K3 K4 V B=>Arw (Ba Lab.f_kinds Btv rfl Hw d) fun v5 r5=>Arw (Ax Hw rfl r5) fun v6 I=>?_)
 have g7:=Bxo I
 refine l_v (Ci (el:=9) Bts rfl I) (l_v (Gl rfl rfl) (Av (.bool (decide ((l.kinds.length:Int)>40))) (Cn (decide ((l.kinds.length:Int)>40)) (fun c=>?_) (fun c=>?_))))
 ·have q8:=lZ1 c
  refine Ap (gN rfl c) (Ap (gN rfl c) (Ap (gN rfl c) (Ap (gN rfl c) (l_v (Bt rfl c (v:=bT) rfl) (l_k B (Co rfl rfl (w_q rfl rfl fun K9 k9=>Au bT (l_k k9 (Aj (Bxj h) (Aq (g ⟨rfl,rfl,_,rfl⟩)))))))))))
 have q8:=lZ0 c
 refine Ak (gY rfl c) (Ba Lab.f_tests Btv rfl Vi d) fun bc aa=>Ak (gY rfl c) (Ax Vi rfl aa) fun bd C=>?_
 have b4:=Bxo C
 refine Aa (gY rfl c) (Ci (el:=46) Bua rfl C) (Aa (gY rfl c) (Gl rfl rfl) (l_v (Bn rfl c (v:=.bool (decide ((l.tests.length:Int)>40))) rfl) (l_k B (Bf (t:=decide ((l.tests.length:Int)>40)) rfl (fun j=>?_) (fun j=>?_)))))
 ·have a6:=lZ1 j
  refine w_q rfl rfl fun am M=>Au bT (l_k M (Aj (Bxj h) (Aq (g ⟨rfl,rfl,_,rfl⟩))))
 have a6:=lZ0 j
 refine Al (kk V ?_)
 refine w_q rfl rfl fun an N=>Au (iV 0) (Ary rfl rfl N fun ao ap O P=>Au (iV 0) (l_k P (Ao (Cc (fun mm ee dd ρ' σ'=>∃(i:Nat) (n:Int),(l.kinds.length-i)=mm∧[]=dd∧J=ρ'∧σ=σ'∧ee 1=pV y∧ee 3=iV n∧ee 4=iV i∧(i≤l.kinds.length)∧True) (m:=_) ⟨0,0,rfl,rfl,rfl,rfl,rfl,rfl,rfl,Gn _,trivial⟩ ?_))))
 rintro m18 e18 _ _ _ ⟨i,n,rfl,rfl,rfl,rfl,h18_1,h18_3,h18_4,p18_0,_⟩
 refine Asb rfl rfl fun aq ar R T=>l_v (Ah (v:=iV i) h18_4) (Arw (Ba Lab.f_kinds Btv rfl Hw d h18_1) fun be ab=>Arw (Ax Hw rfl ab) fun bf D=>?_)
 have b5:=Bxo D
 refine l_v (Ci (el:=9) Bts rfl D) (l_v (Da rfl rfl) (l_k T (Bf (t:=decide ((i:Int)<(l.kinds.length:Int))) rfl (fun k=>?_) (fun k=>?_))))
 ·have a7:=lZ1 k
  refine Al (kk R ?_)
  refine Ai fun au U=>Ao (Ag rfl rfl (l_v (Ah (v:=iV n) h18_3) (Arw (Ba Lab.f_kinds Btv rfl Hw d h18_1) fun bg ac=>Arw (Ax Hw rfl ac) fun bh ad=>l_v (Ah (v:=iV i) h18_4) ?_)))
  obtain⟨f,K⟩:=Ed (xs:=l.kinds) (i:=i) (by omega)
  refine Arw (Ch i Bts ty9 rfl ad (q:=(i:Int)) rfl rfl K) fun bi E=>?_
  have b6:=At.slen E
  refine l_v (Pk ty9 rfl E) (l_v (Afz Btr (s:=f) rfl) (l_v (Br rfl rfl (z:=IntKind.i64.wrap (n+(f.size:Int))) rfl) (Au (iV (IntKind.i64.wrap (n+(f.size:Int)))) (l_k U (Ag rfl rfl (l_v (Ah (v:=iV i) h18_4) (l_v (Cw (((i+1):Nat):Int)) (Au (iV ((i+1):Nat)) (Ac ?_)))))))))
  refine⟨_,?_,(i+1),(IntKind.i64.wrap (n+(f.size:Int))),rfl,rfl,rfl,rfl,h18_1,rfl,rfl,(by omega),trivial⟩
  omega
 have a7:=lZ0 k
 refine Bx (kk O ?_)
 refine Asb rfl rfl fun av aw W Y=>Au (iV 0) (l_k Y (Ao (Cc (fun mm ee dd ρ' σ'=>∃(i:Nat) (n:Int),(l.tests.length-i)=mm∧[]=dd∧J=ρ'∧σ=σ'∧ee 1=pV y∧ee 3=iV n∧ee 5=iV i∧(i≤l.tests.length)∧True) (m:=_) ⟨0,n,rfl,rfl,rfl,rfl,h18_1,h18_3,rfl,Gn _,trivial⟩ ?_)))
 rintro m33 e33 _ _ _ ⟨i,n,rfl,rfl,rfl,rfl,h33_1,h33_3,h33_5,p33_0,_⟩
 refine Asb rfl rfl fun ax ay Z a0=>l_v (Ah (v:=iV i) h33_5) (Arw (Ba Lab.f_tests Btv rfl Vi d h33_1) fun bj ae=>Arw (Ax Vi rfl ae) fun bk F=>?_)
 have b7:=Bxo F
 refine l_v (Ci (el:=46) Bua rfl F) (l_v (Da rfl rfl) (l_k a0 (Bf (t:=decide ((i:Int)<(l.tests.length:Int))) rfl (fun p=>?_) (fun p=>?_))))
 ·have a8:=lZ1 p
  refine Al (kk Z ?_)
  refine Ai fun az a1=>Ao (Asb rfl rfl fun b0 b1 a2 a3=>Arw (Ba Lab.f_tests Btv rfl Vi d h33_1) fun bl af=>Arw (Ax Vi rfl af) fun bm ag=>l_v (Ah (v:=iV i) h33_5) ?_)
  obtain⟨e,x⟩:=Ed (xs:=l.tests) (i:=i) (by omega)
  refine Arw (Ch i Bua Um rfl ag (q:=(i:Int)) rfl rfl x) fun bn ah=>Arw (Ba FTest.f_sees Bub rfl Afp ah) fun bo ai=>Arw (Ax Afp rfl ai) fun bp G=>?_
  have b9:=Bxo G
  refine l_v (Ci (el:=75) Bui rfl G) (l_v (Gl rfl rfl) (l_k a3 (Bf (t:=decide ((e.sees.length:Int)>40)) rfl (fun u=>?_) (fun u=>?_))))
  ·have a9:=lZ1 u
   refine w_q rfl rfl fun b2 a4=>Au bT (l_k a4 (Aj (Bxj h) (Aq (g ⟨rfl,rfl,_,rfl⟩))))
  have a9:=lZ0 u
  refine Al (kk a2 ?_)
  refine Ag rfl rfl (l_v (Ah (v:=iV n) h33_3) (Arw (Ba Lab.f_tests Btv rfl Vi d h33_1) fun bq aj=>Arw (Ax Vi rfl aj) fun br ak=>l_v (Ah (v:=iV i) h33_5) (Arw (Ch i Bua Um rfl ak (q:=(i:Int)) rfl rfl x) fun bt al=>Arw (Ba FTest.f_name Bub rfl ty9 al) fun bu H=>?_)))
  have ba:=At.slen H
  refine l_v (Pk ty9 rfl H) (l_v (Afz Btr (s:=e.name) rfl) (l_v (Br rfl rfl (z:=IntKind.i64.wrap (n+(e.name.size:Int))) rfl) (Au (iV (IntKind.i64.wrap (n+(e.name.size:Int)))) (l_k a1 (Ag rfl rfl (l_v (Ah (v:=iV i) h33_5) (l_v (Cw (((i+1):Nat):Int)) (Au (iV ((i+1):Nat)) (Ac ?_)))))))))
  refine⟨_,?_,(i+1),(IntKind.i64.wrap (n+(e.name.size:Int))),rfl,rfl,rfl,rfl,h33_1,rfl,rfl,(by omega),trivial⟩
  omega
 have a8:=lZ0 p
 refine Bx (kk W ?_)
 refine w_q rfl rfl fun b3 a5=>l_v (Ah (v:=iV n) h33_3) (l_v (Gl rfl rfl) (Au (.bool (decide (n>1000))) (l_k a5 (Aj (Bxj h) (Aq (g ⟨rfl,rfl,_,rfl⟩))))))
end
section
open Go
/-- What the results of a function are,at its end. -/
def Akh(P:Program)(ρ:Ro)(σ:Own)(e:Env):ResultVar→Value→Prop
 | .tmp t,v=>e t=v
 | .cell a t,v=>∀Q:Value→Own→Prop,Q v σ→wpS P ρ (do loadVar t (←asAddr (e a))) σ Q
def Agf(P:Program)(ρ:Ro)(σ:Own)(e:Env):List ResultVar→List Value→Prop
 | [],[]=>True
 | r::rs,v::vs=>Akh P ρ σ e r v∧Agf P ρ σ e rs vs
 | _,_=>False
def Adi:List Value→Value
 | [v]=>v
 | vs=>.tuple vs.toArray
theorem Vf{P:Program}{ρ:Ro}{σ:Own}{fn:Func}{rs:List ResultVar}{vs:List Value}{e:Env}{Q:Value→Own→Prop}(hr:fn.results=rs.toArray)(hl:Agf P ρ σ e rs vs)(h:Q (Adi vs) σ):wpS P ρ (Hp fn e) σ Q:=by
 have key:∀(g:ResultVar→Sem Value) (_:∀r v,Akh P ρ σ e r v→∀Q:Value→Own→Prop,Q v σ→wpS P ρ (g r) σ Q) (rs:List ResultVar) (vs:List Value) (acc:Array Value) (Q:Array Value→Own→Prop),Agf P ρ σ e rs vs→Q (acc++vs.toArray) σ→wpS P ρ (List.foldlM (m:=Sem) (fun (bs:Array Value) (a:ResultVar)=>Functor.map bs.push (g a)) acc rs) σ Q:=by
  intro g hg rs
  induction rs with
  | nil =>
   intro vs acc Q hl h
   cases vs with
   | nil=>show Q acc σ;simpa using h
   | cons v vs=>exact hl.elim
  | cons r rs ih =>
   intro vs acc Q hl h
   cases vs with
   | nil=>exact hl.elim
   | cons v vs =>
    obtain⟨c,d⟩:=hl
    rw[Ann]
    show wpS P ρ (((g r).bind fun x=>pure (acc.push x)).bind _) σ Q
    rw[Ad,Ad]
    refine hg r v c _ ?_
    refine ih vs (acc.push v) Q d ?_
    have b:acc.push v++vs.toArray=acc++(v::vs).toArray:=by simp
    rw[b];exact h
 unfold Hp
 rw[hr,Atu,Bgm]
 show wpS P ρ (Sem.bind _ _) σ Q
 rw[Ad]
 refine key _ ?_ rs vs #[] _ hl ?_
 ·intro r v hv Q hQ
  cases r with
  | tmp t=>cases hv;exact hQ
  | cell a t=>exact hv Q hQ
 ·rw[Ajn]
  show Q _ σ
  cases vs with
  | nil=>exact h
  | cons v vs =>
   cases vs with
   | nil=>exact h
   | cons w vs=>simpa[Adi]using h
theorem Rj{P:Program}{ρ:Ro}{σ:Own}{e:Env}{a off i:Nat}{t t':TypeId}{r:Nat}{c:List Value}{fz:Nat×Nat}{v:Value}(hT:∃d,P.underlying t=some d∧Qv d=false)(ha:e a = .pointer (some ⟨r,off,none⟩))(hi:σ[i]?=some (r,.obj (.cells c.toArray t' fz)))(hc:c[off]?=some v):Akh P ρ σ e (.cell a t) v:=by
 intro Q hQ
 rw[ha]
 show wpS P ρ (loadVar t ⟨r,off,none⟩) σ _
 show wpS P ρ ((isAgg t).bind _) σ _
 rw[Ad]
 refine Hi hT ?_
 exact⟨rfl,rfl,_,v,.inr (Hd hi),by simpa[Gy]using hc,hQ⟩
theorem Lt{C:Ctx}{f:FuncId}{fn:Func}{c:Code}{n:Nat}{args:List Value}{ρ:Ro}{σ:Own}{R:Value→Ro→Own→Prop}(rs:List ResultVar)(hf:C.P.funcs[f]?=some fn)(hc:fn.body=some c)(hn:fn.ntmps=n)(ha:Nat.ble args.length n=true)(hr:fn.results=rs.toArray)
  (h:∀Q:Hu,(∀e ρ' σ' ρ'' σ'' vs,Agf C.P ρ' σ' e rs vs→Ghost ρ' σ' ρ'' σ''→R (Adi vs) ρ'' σ''→Q .ret e [] ρ' σ')→(∀e ρ' σ' ρ'' σ'' vs,Agf C.P ρ' σ' e rs vs→Ghost ρ' σ' ρ'' σ''→R (Adi vs) ρ'' σ''→Q .normal e [] ρ' σ')→WpC C ⟨f,.normal,none⟩ n c Q (Pn args) [] ρ σ):CallsH C f args.toArray ρ σ R:=by
 have a:CallsH C f args.toArray ρ σ (fun v ρ' σ'=>∃ρ'' σ'',Ghost ρ' σ' ρ'' σ''∧R v ρ'' σ''):=by
  refine Oy hf hc hn (Pj ha) (h _ (fun e ρ' σ' ρ'' σ'' vs hl hg hR=>⟨fun id h=>(by cases h),?_⟩) (fun e ρ' σ' ρ'' σ'' vs hl hg hR=>⟨fun id h=>(by cases h),?_⟩)) <;>
  exact Vf (Q:=fun v σ'=>∃ρ'' σ'',Ghost ρ' σ' ρ'' σ''∧R v ρ'' σ'') hr hl ⟨ρ'',σ'',hg,hR⟩
 intro c' cs
 refine(a c' cs).bind ?_
 rintro _ _ ρ' σ' ⟨v,rfl,rfl,ρ'',σ'',hg,hR⟩
 exact .ghost hg (.stop ⟨v,rfl,rfl,hR⟩)
section
variable{C:Ctx}{e:Env}{ds:List Deferred}{ρ:Ro}{σ:Own}{K:Value→List Deferred→Ro→Own→Prop}{rd:Option Nat}{dd:Option Tmp}
variable{ty:TypeId}{pos:String}{af:Array Edge}{g:Option (Nat×Bool)}{x y:Operand}{v:Value}{t t':TypeId}
end
section
variable{C:Ctx}{e:Env}{ds:List Deferred}{ρ:Ro}{σ:Own}{K:Value→List Deferred→Ro→Own→Prop}{rd:Option Nat}{dd:Option Tmp}
variable{ty:TypeId}{pos:String}{af:Array Edge}{g:Option (Nat×Bool)}{x y:Operand}{v:Value}{t t':TypeId}
theorem Gu{r off:Nat}{c:List Value}{fz:Nat×Nat}(hT:∃d,C.P.underlying t=some d∧Qv d=false)(hx:Af e x = .pointer (some ⟨r,off,none⟩))(hi:(r,Res.obj (.cells c.toArray t' fz))∈σ)(hc:c[off]?=some v)(h:K v ds ρ σ) :
  wpS C.P ρ (execOp (Af e) ⟨dd,.load t x,ty,pos,af,g⟩) σ (NextH C K rd ds ρ):=by
 obtain⟨i,hi⟩:=Vg.1 hi
 exact Dt hT hx hi hc h
end
end
section
open Go
theorem Qh{P:Program}{ρ:Ro}{σ:Own}{e:Env}{a i n':Nat}{t t':TypeId}{r:Nat}{cs:List Value}{fz:Nat×Nat}(hT:∃d,P.underlying t=some d∧Qv d=true)(hz:∃i,P.info? t=some i∧i.size=n')(ha:e a = .pointer (some ⟨r,0,none⟩))(hi:σ[i]?=some (r,.obj (.cells cs.toArray t' fz)))(hn:cs.length=n'):Akh P ρ σ e (.cell a t) (.agg cs.toArray):=by
 intro Q hQ
 rw[ha]
 show wpS P ρ (loadVar t ⟨r,0,none⟩) σ _
 show wpS P ρ ((isAgg t).bind _) σ _
 rw[Ad]
 refine Hi hT ?_
 show wpS P ρ ((sizeOf t).bind fun n=>(loadCells ⟨r,0,none⟩ n).bind _) σ _
 rw[Ad]
 refine Dx hz ?_
 rw[Ad,←hn]
 refine Ff rfl (.inr (Hd hi)) cs 0 #[] (fun j w hj=>?_) ?_
 ·simpa[Gy]using hj
 ·have b:(#[]:Array Value)++cs.toArray=cs.toArray:=by simp
  rw[b];exact hQ
theorem Afh{c vs:List Value}(h:vs.length=c.length):over c 0 vs=vs:=by
 rw[Qe _ _ _ (by omega)];simp[h]
section
variable{C:Ctx}{e:Env}{ds:List Deferred}{ρ:Ro}{σ:Own}{K:Value→List Deferred→Ro→Own→Prop}{rd:Option Nat}{dd:Option Tmp}
variable{ty:TypeId}{pos:String}{af:Array Edge}{g:Option (Nat×Bool)}{x y:Operand}{v:Value}{t t':TypeId}
theorem Afr{β:Type}{f:β→Value}{xs:List β}{r i n':Nat}{fz:Nat×Nat}(hT:∃d,C.P.underlying t=some d∧Qv d=true)(hz:∃i,C.P.info? t=some i∧i.size=n')(hx:Af e x = .pointer (some ⟨r,0,none⟩))(hi:σ[i]?=some (r,.obj (.cells (xs.map f).toArray t' fz)))
  (hn:xs.length=n') (h:K (.agg (xs.map f).toArray) ds ρ σ):wpS C.P ρ (execOp (Af e) ⟨dd,.load t x,ty,pos,af,g⟩) σ (NextH C K rd ds ρ) :=
 Xo (cs:=xs.map f) (rs:=[]) hT hz hx hi (by simp) (by simpa using hn) h
theorem Acb{β:Type}{f:β→Value}{xs ys:List β}{r i n':Nat}(hz:∃i,C.P.info? t=some i∧i.size=n')(hx:Af e x = .pointer (some ⟨r,0,none⟩))(hy:Af e y = .agg (ys.map f).toArray)(hs:∀b,single (f b)=true)(hi:σ[i]?=some (r,.obj (.cells (xs.map f).toArray t' (0,0))))
  (hn:ys.length=n') (hl:xs.length=n') (h:K undef ds ρ (σ.set i (r,.obj (.cells (ys.map f).toArray t' (0,0))))):wpS C.P ρ (execOp (Af e) ⟨dd,.store t x y,ty,pos,af,g⟩) σ (NextH C K rd ds ρ) :=
 Li (vs:=ys.map f) (c:=xs.map f) (c':=ys.map f) hz hx hy rfl (by simpa using hn) (by intro w hw;obtain⟨b,_,rfl⟩:=Ow.1 hw;exact hs b) hi (by simp[hn,hl]) (Afh (by simp[hn,hl])) h
end
end
section
open Go
def Apz:ByteArray:=⟨((List.append (List.append [0,1,2,2,3,3,3,3,4,4,4,4,4,4,4,4,5,5,5,5,5,5,5,5,5,5,5,5,5,5,5,5,6,6,6,6,6,6,6,6,6,6,6,6,6,6,6,6,6,6,6,6,6,6,6,6,6,6,6,6,6,6,6,6] [7,7,7,7,7,7,7,7,7,7,7,7,7,7,7,7,7,7,7,7,7,7,7,7,7,7,7,7,7,7,7,7,7,7,7,7,7,7,7,7,7,7,7,7,7,7,7,7,7,7,7,7,7,7,7,7,7,7,7,7,7,7,7,7]) (List.append [8,8,8,8,8,8,8,8,8,8,8,8,8,8,8,8,8,8,8,8,8,8,8,8,8,8,8,8,8,8,8,8,8,8,8,8,8,8,8,8,8,8,8,8,8,8,8,8,8,8,8,8,8,8,8,8,8,8,8,8,8,8,8,8] [8,8,8,8,8,8,8,8,8,8,8,8,8,8,8,8,8,8,8,8,8,8,8,8,8,8,8,8,8,8,8,8,8,8,8,8,8,8,8,8,8,8,8,8,8,8,8,8,8,8,8,8,8,8,8,8,8,8,8,8,8,8,8,8]))).toArray⟩
/-- The bits of a small number. -/
def Ie(x:Nat):Nat:=if x=0 then 0 else if x<2 then 1 else if x<4 then 2 else if x<8 then 3 else if x<16 then 4 else if x<32 then 5 else if x<64 then 6 else if x<128 then 7 else 8
theorem Aji{x:Nat}(h:x<256):Apz[x]?=some (UInt8.ofNat (Ie x)):=by
 have key:(List.range 256).all (fun x=>Apz[x]?==some (UInt8.ofNat (Ie x)))=true:=by decide +kernel
 have:=Rh.1 key x (by simpa using h)
 simpa using this
theorem Sk{x:Nat}:Ie x≤8:=by
 unfold Ie;repeat' split
 all_goals omega
theorem Yt{x:Nat}:(UInt8.ofNat (Ie x)).toNat=Ie x:=by
 have:=Sk (x:=x)
 simp[UInt8.toNat_ofNat'];omega
section
variable{P:Program}{ρ:Ro}{e:Env}{ty t t':TypeId}{x y:Operand}
theorem Acf{k k':IntKind}{p z:Int}{d:TypeDesc}(hT:P.underlying t=some d)(hT':P.underlying t'=some (.int k'))(hx:Af e x = .int k p)(hz:k'.wrap p=z):Yld P ρ e (.convert t t' x) ty (.int k' z) :=
 Mt (s:=convert t t' (Af e x)) (fun _ _ _ _=>rfl) fun ρ' σ _=>by
  rw[hx]
  show wpS P ρ' ((underlying t).bind _) σ _
  rw[Ad]
  refine Az hT ?_
  show wpS P ρ' ((underlying t').bind _) σ _
  rw[Ad]
  refine Az hT' ?_
  subst hz
  cases d<;>exact⟨rfl,rfl⟩
theorem Ev{p:Int}(h0:0≤p)(h1:p<18446744073709551616):IntKind.u64.wrap p=p:=by
 show p%_=_
 simp only[IntKind.bits]
 omega
theorem Anq{p:Int}(h0:0≤p)(h1:p<256):IntKind.u8.wrap p=p:=by
 show p%_=_
 simp only[IntKind.bits]
 omega
end
end
section
open Go Go.Conc
section
variable{P:Program}{c:Nat}{fr fr':Frame}{cs cs':List Frame}{ρ:Ro}{σ:Own}{vs:List Value}
theorem Fa(h:∀W,stepG P false (Conc.G fr cs) W = .go (Conc.G fr' cs') W #[])(hk:SendI P c vs fr' cs' ρ σ):SendI P c vs fr cs ρ σ :=
 .step (fun a b c=>a=fr'∧b=cs'∧c=σ) (fun W hs=>⟨fr',cs',W,#[],σ,h W,.refl hs,by simp,rfl,rfl,rfl⟩) (by rintro _ _ _ ⟨rfl,rfl,rfl⟩;exact hk)
end
abbrev Aco:=List Value→Hu
section
variable{P:Program}{c:Nat}{b:FB}{n:Nat}{Q:Aco}{vs:List Value}{e:Env}{ds:List Deferred}{ρ ρ':Ro}{σ σ':Own}
end
end
section
open Go Go.Conc
/-- The goroutine's own first frame,when its call has been taken. -/
def Gf(P:Program):Frame:={(default:Frame) with fn:=P.funcs.size,defers:=[],mode:=.panicking [goexitEntry]}
theorem Abf{P:Program}{f:FuncId}{fn:Func}{args:Array Value}(hf:P.funcs[f]?=some fn)(hn:(fn.name == "runtime.NumGoroutine")=false)(hb:fn.body.isNone=false)(W:World) :
  (invoke (.fn (.func f) #[]) args).runT P W #[]=(.ok (.enter f args) W,#[]):=by
 show (callFunc f (args ++ #[])).runT P W #[]=_
 rw[Amn]
 show (program.bind _:Sem Next).runT P W #[]=_
 rw[Sem.runT_bind']
 show Sem.runT P (match P.funcs[f]? with|none=>_|some fn=>_) W #[]=_
 rw[hf]
 simp only[hn,hb]
 rfl
theorem Abt{P:Program}{c:Nat}{ρ:Ro}{vs:List Value}{f:FuncId}{fn:Func}{args:Array Value}(hf:P.funcs[f]?=some fn)(hn:(fn.name == "runtime.NumGoroutine")=false)(hb:fn.body.isNone=false)
  (h:SendI P c vs (Frame.enter P f args .deferred) [Gf P] ρ []):SendI P c vs (Gg P {target:=.fn (.func f) #[],args:=args}) [] ρ []:=by
 refine Fa (fun W=>?_) h
 have hr:=Abf (args:=args) hf hn hb W
 simp[Conc.G,stepG,Gg,unwind,callDeferred,-Sem.runT_eq,hr,GStep.after,seen,Gf]
/-- What has been deferred: the close. -/
def Lj(c:Nat)(tys:Array TypeId)(ty:TypeId)(cn:Array Bool):Deferred:={target:=.builtin .close tys ty cn,args:=#[.chan (some c)]}
theorem Aeo{P:Program}{c:Nat}{tys:Array TypeId}{ty:TypeId}{cn:Array Bool}{W:World}{s r:Nat}{tm:Bool}(h:W.heap[c]?=some (.chan 0 #[] false s r tm)) :
  (invoke (.builtin .close tys ty cn) #[.chan (some c)]).runT P W #[]=(.ok (.value (.tuple #[])) (W.setChan c 0 #[] true s r tm),#[⟨.obj c,false,true⟩,⟨.obj c,true,true⟩]):=by
 have b:(Builtin.close_ tys ty #[.chan (some c)]).runT P W #[]=(.ok (.tuple #[]) (W.setChan c 0 #[] true s r tm),#[⟨.obj c,false,true⟩,⟨.obj c,true,true⟩]):=by
  show Sem.runT P (Sem.getObj c fun o=>Sem.bind (Sem.pure o) _) W #[]=_
  rw[Sem.runT]
  simp only[h]
  show Sem.runT P (Sem.setObj c (.chan 0 #[] true s r tm) (Sem.pure (Value.tuple #[]))) W _=_
  rw[Sem.runT]
  simp only[h]
  rfl
 show ((Builtin.close_ tys ty #[.chan (some c)]).bind fun v=>Sem.pure (Next.value v)).runT P W #[]=_
 rw[Sem.runT_bind',b]
 rfl
/-- It leaves a function that yields nothing,and closes what was deferred. -/
theorem Aky{P:Program}{c:Nat}{b:FB}{tm:Array Value}{todo:List Item}{fn:Func}{tys:Array TypeId}{ty:TypeId}{cn:Array Bool}(hf:P.funcs[b.fn]?=some fn)(hk:b.kind = .deferred)(hr:fn.results = #[]) :
  Acm P c {Fr b tm [Lj c tys ty cn] todo with mode:=.returning} [Gf P]:=by
 refine⟨rfl,2,Conc.G {Fr b tm [] todo with mode:=.returning} [Gf P],?_,fun W s r tm' hc=>?_⟩
 ·refine .inr ⟨rfl,Conc.G (Gf P) [],fun w=>?_,.inr ⟨rfl,{Conc.G (Gf P) [] with status:=.finished},fun w=>?_,(rfl:GoStatus.finished=GoStatus.finished)⟩⟩
  ·have hrs:(results fn tm).runT P w #[]=(.ok (.tuple #[]) w,#[]):=by
    unfold results;rw[hr,Atu];rfl
   simp[Conc.G,stepG,Fr,unwind,hf,-Sem.runT_eq,hrs,doReturn,hk,GStep.after,Gf,goexitEntry,seen]
  ·have hc:Frame.catches P (Gf P)=false:=by
    unfold Frame.catches Gf
    cases P.funcs[P.funcs.size]?<;>rfl
   simp only[Gf,goexitEntry]at hc
   simp[Conc.G,stepG,Gf,unwind,goexitEntry,hc]
 ·have a:=Aeo (P:=P) (tys:=tys) (ty:=ty) (cn:=cn) hc
  simp[Conc.G,stepG,Fr,unwind,Lj,callDeferred,-Sem.runT_eq,a,GStep.after,seen]
section
variable{P:Program}{c:Nat}{b:FB}{n:Nat}{l₀ rest:List Oper}{Q:List Value→Env→List Deferred→Ro→Own→Prop}{vs:List Value}{e:Env}{ds:List Deferred}{ρ:Ro}{σ:Own}
end
section
variable{C:Ctx}{e:Env}{ds:List Deferred}{ρ:Ro}{σ:Own}{K:Value→List Deferred→Ro→Own→Prop}{dd:Option Tmp}
theorem Xn{ty:TypeId}{pos:String}{af:Array Edge}{g:Option (Nat×Bool)}{x:Operand}{tys:Array TypeId}{c t:Nat}(hxt:x = .tmp t)(hx:Af e x = .chan (some c))(h:K undef (Lj c tys ty #[false]::ds) ρ σ) :
  wpS C.P ρ (execOp (Af e) ⟨dd,.defer ⟨.builtin .close,#[x],tys⟩,ty,pos,af,g⟩) σ (NextH C K none ds ρ):=by
 subst hxt
 have a:execOp (Af e) ⟨dd,.defer ⟨.builtin .close,#[.tmp t],tys⟩,ty,pos,af,g⟩=Sem.pure (Next.defer {target:=.builtin .close tys ty #[false],args:=#[Af e (.tmp t)]}):=by
  show ((resolve (Af e) ⟨.builtin .close,#[.tmp t],tys⟩ ty).bind fun d=>Sem.pure (Next.defer d))=_
  simp[resolve,Sem.bind,pure]
 rw[a,hx]
 exact⟨rfl,h⟩
end
end
section
open Go Go.Conc
def Agk:Nat→List (List Bool)
 | 0=>[[]]
 | k+1=>(Agk k).flatMap fun l=>[true::l,false::l]
theorem Yu:∀(l:List Bool),l∈Agk l.length
 | []=>by simp[Agk]
 | b::l=>by
  rw[lZ3,Agk,List.mem_flatMap]
  exact⟨l,Yu l,by cases b<;>simp⟩
def Mh(ops:List Oper)(l:List Bool):Bool:=(List.range ops.length).all fun i=>!l.getD i false||(match ops[i]? with|some o=>o.after.all (fun e=>!Region.binds .any e||l.getD e.on false)|none=>true)
/-- The last one comes when all others have come. -/
def Amp(ops' ops:List Oper):Bool:=(Agk ops'.length).all fun l=>!Mh ops' l||(decide (Dl ops (l++[false])=if Dl ops' l=[] then [ops'.length] else Dl ops' l)&&(decide (Dl ops' l≠[])||decide (Dl ops (l++[true])=[]))&&(Dl ops' l).all fun i=>Mh ops' (l.set i true))
def Adh(l:List Oper):Bool:=l.all fun o=>o.guard.isNone
section
variable{C:Ctx}{b:FB}{n:Nat}{l':List Oper}{oL:Oper}{Q Q':Env→List Deferred→Ro→Own→Prop}{pz:List Nat}{S:Ro→Own→Prop}
theorem Aap(hs:Fu n (l'++[oL]).toArray=true)(hk:b.kind ≠ .early)(hg:Adh l'=true)(hc:Amp l' (l'++[oL])=true)(hQ:∀e ds ρ σ,Q' e ds ρ σ→Lq C b n (l'++[oL]).toArray [l'.length] Q e ds ρ σ) :
  ∀(fuel t:Nat) (l:List Bool) (e:Env) (ds:List Deferred) (ρ:Ro) (σ:Own),l.length=l'.length→Mh l' l=true→El C b l'.toArray Q' pz S fuel l.toArray e ds ρ σ →
  Lq C b n (l'++[oL]).toArray (Region.linearise.go .any (l'++[oL]).toArray (fuel+1) t (l++[false]).toArray []) Q e ds ρ σ:=by
 have f:∀l:List Bool,l.length=l'.length→Mh l' l=true→Dl (l'++[oL]) (l++[false])=(if Dl l' l=[] then [l'.length] else Dl l' l)∧(Dl l' l=[]→Dl (l'++[oL]) (l++[true])=[])∧∀i∈Dl l' l,Mh l' (l.set i true)=true:=fun l hl hcl=>by
  have a:=Rh.1 hc l (hl ▸ Yu l)
  rw[hcl]at a
  simp only[Ix,Hz,Rb,Azy,decide_eq_true_eq,Rh]at a
  exact⟨a.1.1,fun h=>a.1.2.resolve_left fun h'=>h' h,a.2⟩
 have rd:∀(l:List Oper) (li:List Bool),Region.ready .any l.toArray li.toArray=Dl l li:=Hh
 have fin:∀(fuel t:Nat) (l:List Bool) (e:Env) (ds:List Deferred) (ρ:Ro) (σ:Own),l.length=l'.length→Mh l' l=true→Dl l' l=[]→Q' e ds ρ σ →
   Lq C b n (l'++[oL]).toArray (Region.linearise.go .any (l'++[oL]).toArray (fuel+1) t (l++[false]).toArray []) Q e ds ρ σ:=by
  intro fuel t l e ds ρ σ hl hcl hr hq
  obtain⟨a,d,_⟩:=f l hl hcl
  rw[if_pos hr]at a
  have g:Region.linearise.go .any (l'++[oL]).toArray (fuel+1) t (l++[false]).toArray []=[l'.length]:=by
   simp only[Region.linearise.go]
   change (match (Region.ready .any (l'++[oL]).toArray (l++[false]).toArray)[t%(Region.ready .any (l'++[oL]).toArray (l++[false]).toArray).length]? with
    | some i=>Region.linearise.go .any (l'++[oL]).toArray fuel (t/(Region.ready .any (l'++[oL]).toArray (l++[false]).toArray).length) ((l++[false]).toArray.setIfInBounds i true) [i]
    | none=>[].reverse)=_
   rw[rd,a]
   simp only[Aqv,Nat.mod_one,Aes]
   rw[linearise_go_acc]
   have j:(l++[false]).toArray.setIfInBounds l'.length true=(l++[true]).toArray:=by
    rw[←hl];simp
   rw[j]
   cases fuel with
   | zero=>simp[Region.linearise.go]
   | succ fuel =>
    simp only[Region.linearise.go]
    have m:Region.ready .any (l'++[oL]).toArray (l++[true]).toArray=[]:=(rd _ _).trans (d hr)
    change [l'.length].reverse++(match (Region.ready .any (l'++[oL]).toArray (l++[true]).toArray)[(t/1)%(Region.ready .any (l'++[oL]).toArray (l++[true]).toArray).length]? with
     | some i=>Region.linearise.go .any (l'++[oL]).toArray fuel ((t/1)/(Region.ready .any (l'++[oL]).toArray (l++[true]).toArray).length) ((l++[true]).toArray.setIfInBounds i true) [i]
     | none=>[].reverse)=_
    rw[m];rfl
  rw[g];exact hQ _ _ _ _ hq
 intro fuel
 induction fuel with
 | zero =>
  intro t l e ds ρ σ hl hcl h
  exact fin 0 t l e ds ρ σ hl hcl ((rd _ _).symm.trans h.1) h.2
 | succ fuel ih =>
  intro t l e ds ρ σ hl hcl h
  rcases h with h|⟨ρ₁,σ₁,hgh,_,h₀,h₁⟩
  ·exact fun tm k cs ht=>Rc h
  refine fun tm k cs ht=>.ghost hgh ?_
  revert tm k cs
  change Lq C b n (l'++[oL]).toArray (Region.linearise.go .any (l'++[oL]).toArray (fuel+1+1) t (l++[false]).toArray []) Q e ds ρ₁ σ₁
  by_cases hr:Dl l' l=[]
  ·exact fin (fuel+1) t l e ds ρ₁ σ₁ hl hcl hr (h₀ ((rd _ _).trans hr))
  obtain⟨a,d,u⟩:=f l hl hcl
  rw[if_neg hr]at a
  rw[Region.linearise.go]
  change Lq C b n (l'++[oL]).toArray (match (Region.ready .any (l'++[oL]).toArray (l++[false]).toArray)[t%(Region.ready .any (l'++[oL]).toArray (l++[false]).toArray).length]? with
   | some i=>Region.linearise.go .any (l'++[oL]).toArray (fuel+1) (t/(Region.ready .any (l'++[oL]).toArray (l++[false]).toArray).length) ((l++[false]).toArray.setIfInBounds i true) [i]
   | none=>[].reverse) Q e ds ρ₁ σ₁
  rw[rd,a]
  have w:0<(Dl l' l).length:=Azs.2 hr
  have hlt:t%(Dl l' l).length<(Dl l' l).length:=Nat.mod_lt _ w
  rw[Sc hlt]
  simp only[]
  have hi:(Dl l' l)[t%(Dl l' l).length]∈Dl l' l:=Azv hlt
  generalize (Dl l' l)[t%(Dl l' l).length]=i at hi
  have hi':i<l'.length:=by
   have:=(List.mem_filter.1 (show i∈(List.range l'.length).filter _ from hi)).1
   simpa using this
  rw[linearise_go_acc,List.reverse_singleton,Bgk]
  have c:=h₁ i (by rw[rd];exact hi)
  have p:(l++[false]).toArray.setIfInBounds i true=(l.set i true++[false]).toArray:=by
   simp[List.set_append_left _ _ (hl ▸ hi')]
  have q:l.toArray.setIfInBounds i true=(l.set i true).toArray:=by simp
  rw[p]
  refine Uc hs hk ?_
  have ho:l'[i]?=some l'[i]:=Sc hi'
  have x:(l'++[oL])[i]?=some l'[i]:=by rw[Ajl hi',ho]
  have hgn:(l'[i]).guard=none:=by
   have:=Rh.1 hg _ (Azv hi')
   simpa using this
  unfold OpH at c ⊢
  simp only[Pe,ho,x]at c ⊢
  have y:Bz l'.toArray l'[i] e=true:=by unfold Bz;rw[hgn]
  have z:Bz (l'++[oL]).toArray l'[i] e=true:=by unfold Bz;rw[hgn]
  rw[if_pos y]at c
  rw[if_pos z]
  refine Eu (fun nx σ' hn=>hn.mono fun v ds ρ σ hh=>?_) _ _ c
  refine ih _ _ _ _ _ _ (by simpa using hl) (u i hi) ?_
  rw[←q];exact hh.2
end
end
section
open Go
inductive Tr(α:Type) where
 | leaf
 | node (v:Option α) (l r:Tr α)
noncomputable def Tr.get{α:Type}(t:Tr α):Nat→Option α:=Tr.rec (motive:=fun _=>Nat→Option α) (fun _=>none)
 (fun v _ _ gl gr k=>Bool.rec (Bool.rec (gl (Nat.div k 2)) (gr (Nat.sub (Nat.div k 2) 1)) (Nat.beq (Nat.mod k 2) 0)) v (Nat.beq k 0)) t
noncomputable def Tr.put{α:Type}(n:Nat):Tr α→Nat→α→Tr α:=Nat.rec (motive:=fun _=>Tr α→Nat→α→Tr α) (fun t _ _=>t)
 (fun _ ih t k a=>Tr.rec (motive:=fun _=>Tr α)
  (Bool.rec (Bool.rec (.node none (ih .leaf (Nat.div k 2) a) .leaf) (.node none .leaf (ih .leaf (Nat.sub (Nat.div k 2) 1) a)) (Nat.beq (Nat.mod k 2) 0)) (.node (some a) .leaf .leaf) (Nat.beq k 0))
  (fun v l r _ _=>Bool.rec (Bool.rec (.node v (ih l (Nat.div k 2) a) r) (.node v l (ih r (Nat.sub (Nat.div k 2) 1) a)) (Nat.beq (Nat.mod k 2) 0)) (.node (some a) l r) (Nat.beq k 0)) t) n
noncomputable def Tr.set{α:Type}(t:Tr α)(k:Nat)(a:α):Tr α:=Tr.put (Nat.succ k) t k a
inductive CV where
 | bad
 | b (x:Bool)
 | i (k:IntKind) (n:Int)
 | s (x:List UInt8)
 | pn
 | p (k off:Nat)
 | sn
 | sl (k off ln:Nat) (kn:Bool) (c:Nat)
 | mn
 | m (k:Nat)
 | cn
 | c (k:Nat)
 | fn
 | f (g:Nat) (xs ys:List CV)
 | y (k:Nat)
 | n
 | a (t:Nat) (v:CV)
 | g (l:List CV)
 | t (l:List CV)
deriving Inhabited
def CV.undef:CV:=.t []
/-- The cells of a value. -/
noncomputable def CV.cells:CV→Option (List CV)
 | .g l=>some l
 | .bad=>none
 | v=>some [v]
noncomputable def CV.isCell:CV→Bool
 | .g _=>false
 | .t _=>false
 | .bad=>false
 | _=>true
noncomputable def xAllC(l:List CV):Bool:=List.rec (motive:=fun _=>Bool) true (fun a _ ih=>match a.isCell with|true=>ih|false=>false) l
/-- The value of a constant. -/
noncomputable def xOf0:Value→CV
 | .bool x=>.b x
 | .int k n=>.i k n
 | .string x=>.s x.data.toList
 | .pointer none=>.pn
 | .slice none 0 0=>.sn
 | .map none=>.mn
 | .chan none=>.cn
 | .nilFunc=>.fn
 | .nilIface=>.n
 | .func (.func g) xs ys=>match xs.toList,ys.toList with
  | [],[]=>.f g [] []
  | _,_=>.bad
 | _=>.bad
noncomputable def xOf1:Value→CV
 | .iface t v=>.a t (xOf0 v)
 | v=>xOf0 v
noncomputable def xOfV:Value→CV
 | .agg l=>.g (l.toList.map xOf1)
 | .tuple l=>.t (l.toList.map xOf1)
 | v=>xOf1 v
noncomputable def xDrp{α:Type}(n:Nat):List α→List α:=Nat.rec (motive:=fun _=>List α→List α) (fun l=>l) (fun _ ih l=>List.rec (motive:=fun _=>List α) [] (fun _ l _=>ih l) l) n
/-- The first n,if there are so many. -/
noncomputable def xTkn{α:Type}(n:Nat):List α→Option (List α):=Nat.rec (motive:=fun _=>List α→Option (List α)) (fun _=>some [])
 (fun _ ih l=>List.rec (motive:=fun _=>Option (List α)) none (fun a l _=>match ih l with|some r=>some (a::r)|none=>none) l) n
noncomputable def xNth{α:Type}(n:Nat):List α→Option α:=Nat.rec (motive:=fun _=>List α→Option α) (fun l=>List.rec (motive:=fun _=>Option α) none (fun a _ _=>some a) l)
 (fun _ ih l=>List.rec (motive:=fun _=>Option α) none (fun _ l _=>ih l) l) n
noncomputable def xApp{α:Type}(x y:List α):List α:=List.rec (motive:=fun _=>List α) y (fun a _ ih=>a::ih) x
noncomputable def xLen{α:Type}(x:List α):Nat:=List.rec (motive:=fun _=>Nat) 0 (fun _ _ ih=>Nat.succ ih) x
/-- vs in place of what stands at n and behind it. -/
noncomputable def xOver(vs:List CV):List CV→Option (List CV):=List.rec (motive:=fun _=>List CV→Option (List CV)) (fun l=>some l)
 (fun v _ ih l=>List.rec (motive:=fun _=>Option (List CV)) none (fun _ l _=>match ih l with|some r=>some (v::r)|none=>none) l) vs
noncomputable def xSetL(n:Nat)(vs:List CV):List CV→Option (List CV):=Nat.rec (motive:=fun _=>List CV→Option (List CV)) (fun l=>xOver vs l)
 (fun _ ih l=>List.rec (motive:=fun _=>Option (List CV)) none (fun a l _=>match ih l with|some r=>some (a::r)|none=>none) l) n
inductive CO where
 | cells (l:List CV)
 | grow (n:Nat) (l:List CV)
 | map (es:List (CV×CV))
 | loop (busy:Nat) (pend:Option Code) (n:Nat) (env:Tr CV) (ps:List Tmp) (as_ body:Code) (dk:Nat)
 | defd
 | chan
 | dead
 | rcv (vs:List CV)
inductive Cell where
 | own (o:CO)
 | ro (o:CO)
structure Mem where
 M:Tr Cell
 nx:Nat
 log:List Nat
 ln:Nat
 outs:List CV
inductive CD where
 | mark (k:Nat)
 | close (k:Nat)
structure St where
 e:Tr CV
 m:Mem
 ds:List CD
noncomputable def Mem.obj(m:Mem)(k:Nat):Option CO:=match m.M.get k with|some (.own o)=>some o|some (.ro o)=>some o|none=>none
noncomputable def xRowO:CO→Option (List CV)
 | .cells l=>some l
 | .grow _ l=>some l
 | _=>none
noncomputable def Mem.row(m:Mem)(k:Nat):Option (List CV):=match m.M.get k with
 | some (.own o)=>xRowO o
 | some (.ro o)=>xRowO o
 | none=>none
noncomputable def Mem.add(m:Mem)(o:CO):Mem:=⟨m.M.set m.nx (.own o),Nat.succ m.nx,m.log,m.ln,m.outs⟩
noncomputable def Mem.put(m:Mem)(k:Nat)(o:CO):Mem:=⟨m.M.set k (.own o),m.nx,k::m.log,Nat.succ m.ln,m.outs⟩
noncomputable def Mem.store(m:Mem)(k off:Nat)(vs:List CV):Option Mem:=match xAllC vs with
 | false=>none
 | true=>match m.M.get k with
  | some (.own (.cells l))=>match xSetL off vs l with|some r=>some (m.put k (.cells r))|none=>none
  | some (.own (.grow n l))=>match xSetL off vs l with|some r=>some (m.put k (.grow n r))|none=>none
  | _=>none
noncomputable def Mem.read(m:Mem)(k off n:Nat):Option (List CV):=match m.row k with
 | some l=>xTkn n (xDrp off l)
 | none=>none
inductive OR where
 | v (x:CV) (m:Mem)
 | rd (x:CV) (k:Nat)
 | enter (f:FuncId) (args:List CV)
 | round (k:Nat) (args:List CV)
 | go (f:CV) (args:List CV)
 | recv (k:Nat) (ok:Bool)
 | send (k:Nat) (x:CV)
 | dclose (x:CV)
 | bad
structure K1 where
 run:Tr CV→CV
structure KL where
 run:Tr CV→List CV
structure KO where
 run:Tr CV→Mem→OR
noncomputable def rdK:Operand→K1
 | .tmp t=>⟨fun e=>match e.get t with|some v=>v|none=>.bad⟩
 | .const v=>⟨fun _=>xOfV v⟩
 | .global g=>match Nat.ble (Nat.succ g) 16 with|true=>⟨fun _=>.p g 0⟩|false=>⟨fun _=>.bad⟩
 | .func f=>⟨fun _=>.f f [] []⟩
noncomputable def rdsK:List Operand→KL
 | []=>⟨fun _=>[]⟩
 | x::l=>match rdK x,rdsK l with|⟨f⟩,⟨g⟩=>⟨fun e=>f e::g e⟩
noncomputable def xEqS(x:List UInt8):List UInt8→Bool:=List.rec (motive:=fun _=>List UInt8→Bool) (fun y=>List.rec (motive:=fun _=>Bool) true (fun _ _ _=>false) y)
 (fun a _ ih y=>List.rec (motive:=fun _=>Bool) false (fun b y _=>Bool.rec false (ih y) (Nat.beq a.toNat b.toNat)) y) x
noncomputable def xEqI:Int→Int→Bool
 | .ofNat x,.ofNat y=>Nat.beq x y
 | .negSucc x,.negSucc y=>Nat.beq x y
 | _,_=>false
noncomputable def xLtI:Int→Int→Bool
 | .ofNat x,.ofNat y=>Nat.ble (Nat.succ x) y
 | .negSucc x,.negSucc y=>Nat.ble (Nat.succ y) x
 | .negSucc _,.ofNat _=>true
 | .ofNat _,.negSucc _=>false
noncomputable def xEqP:CV→CV→Option Bool
 | .b x,.b y=>some (x==y)
 | .i _ x,.i _ y=>some (xEqI x y)
 | .s x,.s y=>some (xEqS x y)
 | _,_=>none
noncomputable def xRepL(z:List CV)(n:Nat):List CV:=Nat.rec (motive:=fun _=>List CV) [] (fun _ ih=>xApp z ih) n
noncomputable def xBytesC(l:List UInt8):List CV:=List.rec (motive:=fun _=>List CV) [] (fun b _ ih=>.i .u8 (.ofNat b.toNat)::ih) l
noncomputable def xVOf(m:Mem):Option CV→OR
 | some x=>.v x m
 | none=>.bad
noncomputable def xAggT(P:Program)(t:TypeId):Option Bool:=match P.underlying t with
 | some d=>some (Qv d)
 | none=>none
noncomputable def xSzT(P:Program)(t:TypeId):Option Nat:=match P.info? t with|some i=>some i.size|none=>none
noncomputable def xZeroT(P:Program)(t:TypeId):Option CV:=match P.info? t with
 | some i=>match i.zero with|some v=>some (xOfV v)|none=>none
 | none=>none
/-- How many cells the zero value has. -/
noncomputable def xZeroC(P:Program)(t:TypeId):Option Nat:=match P.info? t with
 | some i=>match i.zero with|some v=>some v.cells.size|none=>none
 | none=>none
structure LK where
 run:List CV→Option CV
/-- A part that begins a row,as a value of a type. -/
noncomputable def partK(P:Program)(t:TypeId):LK:=match xAggT P t with
 | some true=>match xSzT P t with
  | some n=>⟨fun l=>match xTkn n l with|some r=>some (.g r)|none=>none⟩
  | none=>⟨fun _=>none⟩
 | some false=>⟨fun l=>match l with|v::_=>some v|[]=>none⟩
 | none=>⟨fun _=>none⟩
structure FK where
 run:List CV→Tr CV→Option (List CV)
/-- Parts,each with the size that is asked,over cells. -/
noncomputable def fillK(off:Nat→Option (Nat×Nat)):List (Nat×Operand)→FK
 | []=>⟨fun l _=>some l⟩
 | (i,x)::r=>match off i with
  | none=>⟨fun _ _=>none⟩
  | some (o,z)=>⟨fun l e=>match ((rdK x).run e).cells with
   | none=>none
   | some c=>match Nat.beq (xLen c) z with
    | false=>none
    | true=>match xSetL o c l with
     | some l=>(fillK off r).run l e
     | none=>none⟩
noncomputable def fldAt(P:Program)(fs:List Field)(i:Nat):Option (Nat×Nat):=match fs[i]? with
 | some f=>match xSzT P f.type with|some n=>some (f.offset,n)|none=>none
 | none=>none
noncomputable def allSz(P:Program):List Field→Bool
 | []=>true
 | f::fs=>match xSzT P f.type with|some _=>allSz P fs|none=>false
/-- A struct of numbers alone,cell by cell: their kinds. -/
noncomputable def flatK(P:Program):Nat→List Field→Option (List IntKind)
 | _,[]=>some []
 | n,f::fs=>match f.name == "_",Nat.beq f.offset n,P.underlying f.type,flatK P (Nat.succ n) fs with
  | false,true,some (.int k),some l=>some (k::l)
  | _,_,_,_=>none
noncomputable def flatT(P:Program)(t:TypeId):Option (List IntKind):=match P.stoodInHeld t,P.eqGuardType P.depth t,P.underlying t with
 | false,false,some (.struct fs)=>flatK P 0 fs.toList
 | _,_,_=>none
noncomputable def xKind:IntKind→IntKind→Bool
 | .i8,.i8 | .i16,.i16 | .i32,.i32 | .i64,.i64 | .u8,.u8 | .u16,.u16 | .u32,.u32 | .u64,.u64=>true
 | _,_=>false
noncomputable def eqF0:List CV→List CV→Option Bool
 | [],[]=>some true
 | _,_=>none
noncomputable def eqF1(k:IntKind)(ih:List CV→List CV→Option Bool):List CV→List CV→Option Bool
 | .i k1 a::x,.i k2 b::y=>match xKind k k1,xKind k k2 with
  | true,true=>match ih x y with|some r=>some (match xEqI a b with|true=>r|false=>false)|none=>none
  | _,_=>none
 | _,_=>none
noncomputable def eqF(ks:List IntKind):List CV→List CV→Option Bool:=List.rec (motive:=fun _=>List CV→List CV→Option Bool) eqF0 (fun k _ ih=>eqF1 k ih) ks
structure BK where
 run:List CV→Mem→OR
/-- n: the cells of an element. -/
noncomputable def appendK(n:Nat):BK:=⟨fun args m=>match args with
 | [s,.sl k2 off2 lx _ _]=>match m.read k2 off2 (Nat.mul lx n) with
  | none=>.bad
  | some cx=>match Nat.beq lx 0,xAllC cx with
   | false,true=>match s with
    | .sn=>match Nat.ble lx 1000000 with|true=>.v (.sl m.nx 0 lx false 0) (m.add (.grow n cx))|false=>.bad
    | .sl k off ls false c=>match m.M.get k with
      | some (.own (.grow n' l))=>match Nat.beq n n',Nat.beq off 0,Nat.beq c 0,Nat.beq (xLen l) (Nat.mul ls n),Nat.ble (Nat.add ls lx) 1000000 with
       | true,true,true,true,true=>.v (.sl m.nx 0 (Nat.add ls lx) false 0) ((m.put k .dead).add (.grow n (xApp l cx)))
       | _,_,_,_,_=>.bad
      | _=>.bad
    | _=>.bad
   | _,_=>.bad
 | _=>.bad⟩
noncomputable def builtinK(P:Program)(b:Builtin)(ts:List TypeId):BK :=
 match b with
 | .len=>match ts with
  | [t]=>match P.underlying t with
   | some (.slice _)=>⟨fun args m=>match args with
    | [.sn]=>.v (.i .i64 0) m
    | [.sl _ _ n _ _]=>.v (.i .i64 (.ofNat n)) m
    | _=>.bad⟩
   | some .string=>⟨fun args m=>match args with|[.s x]=>.v (.i .i64 (.ofNat (xLen x))) m|_=>.bad⟩
   | _=>⟨fun _ _=>.bad⟩
  | _=>⟨fun _ _=>.bad⟩
 | .min=>⟨fun args m=>match args with
  | [.i k x,.i k' y]=>match xKind k k' with|true=>.v (.i k (match xLtI y x with|true=>y|false=>x)) m|false=>.bad
  | _=>.bad⟩
 | .max=>⟨fun args m=>match args with
  | [.i k x,.i k' y]=>match xKind k k' with|true=>.v (.i k (match xLtI x y with|true=>y|false=>x)) m|false=>.bad
  | _=>.bad⟩
 | .append=>match ts with
  | [t,u]=>match P.underlying t,P.underlying u with
   | some (.slice el),some (.slice _)=>match P.info? el,xZeroC P el with
    | some i,some z=>match Nat.ble 1 i.size,Nat.ble i.bytes 4096,Nat.beq z i.size with|true,true,true=>appendK i.size|_,_,_=>⟨fun _ _=>.bad⟩
    | _,_=>⟨fun _ _=>.bad⟩
   | _,_=>⟨fun _ _=>.bad⟩
  | _=>⟨fun _ _=>.bad⟩
 | _=>⟨fun _ _=>.bad⟩
/-- A function's code and results. -/
noncomputable def xHasBody(P:Program)(g:Nat):Bool:=match P.funcs[g]? with
 | some fn=>match fn.name == "runtime.NumGoroutine" with|true=>false|false=>fn.body.isSome
 | none=>false
noncomputable def callK(P:Program):CV→List CV→OR
 | .f g xs ys,args=>match xHasBody P g with
  | true=>.enter g (xApp xs (xApp args ys))
  | false=>.bad
 | .y k,args=>.round k args
 | _,_=>.bad
noncomputable def xBadK:KO:=⟨fun _ _=>.bad⟩
/-- An operation on two numbers of one kind,or a comparison. -/
noncomputable def binN(op:BinOp)(k:IntKind)(a b:Int):Option CV :=
 match op with
 | .add=>some (.i k (k.wrap (a+b)))
 | .sub=>some (.i k (k.wrap (a-b)))
 | .mul=>some (.i k (k.wrap (a*b)))
 | .and=>some (.i k (k.wrap (BitVec.ofInt k.bits a &&& BitVec.ofInt k.bits b).toNat))
 | .or=>some (.i k (k.wrap (BitVec.ofInt k.bits a ||| BitVec.ofInt k.bits b).toNat))
 | .andNot=>some (.i k (k.wrap (BitVec.ofInt k.bits a &&& ~~~(BitVec.ofInt k.bits b)).toNat))
 | .eql=>some (.b (xEqI a b))
 | .neq=>some (.b (!xEqI a b))
 | .lss=>some (.b (xLtI a b))
 | .leq=>some (.b (!xLtI b a))
 | .gtr=>some (.b (xLtI b a))
 | .geq=>some (.b (!xLtI a b))
 | _=>none
structure K3 where
 run:IntKind→Int→Int→Option CV
/-- binN at one operation. -/
noncomputable def binKN:BinOp→K3
 | .add=>⟨binN .add⟩
 | .sub=>⟨binN .sub⟩
 | .mul=>⟨binN .mul⟩
 | .and=>⟨binN .and⟩
 | .or=>⟨binN .or⟩
 | .andNot=>⟨binN .andNot⟩
 | .eql=>⟨binN .eql⟩
 | .neq=>⟨binN .neq⟩
 | .lss=>⟨binN .lss⟩
 | .leq=>⟨binN .leq⟩
 | .gtr=>⟨binN .gtr⟩
 | .geq=>⟨binN .geq⟩
 | _=>⟨fun _ _ _=>none⟩
/-- What a key of a map may be. -/
inductive MK where
 | str
 | flat (ks:List IntKind)
noncomputable def mapKind(P:Program)(kt:TypeId):Option MK:=match P.underlying kt with
 | some .string=>some .str
 | some (.struct _)=>match flatT P kt with|some ks=>some (.flat ks)|none=>none
 | _=>none
noncomputable def eqM:MK→CV→CV→Option Bool
 | .str,.s a,.s b=>some (xEqS a b)
 | .flat ks,.g a,.g b=>eqF ks a b
 | _,_,_=>none
noncomputable def keyOk:MK→CV→Bool
 | .str,.s _=>true
 | .flat ks,.g a=>(eqF ks a a).isSome
 | _,_=>false
/-- The first entry with this key. -/
noncomputable def findX(mk:MK)(k:CV)(l:List (CV×CV)):Option (Option CV):=List.rec (motive:=fun _=>Option (Option CV)) (some none)
 (fun e _ ih=>match e with|(a,v)=>match eqM mk k a with|some true=>some (some v)|some false=>ih|none=>none) l
noncomputable def putX(mk:MK)(k v:CV)(l:List (CV×CV)):Option (List (CV×CV)):=List.rec (motive:=fun _=>Option (List (CV×CV))) (some [(k,v)])
 (fun e l ih=>match e with|(a,w)=>match eqM mk k a with
  | some true=>some ((k,v)::l)
  | some false=>match ih with|some r=>some ((a,w)::r)|none=>none
  | none=>none) l
noncomputable def opK(P:Program):Op→KO
 | .move x=>⟨fun e m=>.v ((rdK x).run e) m⟩
 | .assign x=>⟨fun e m=>.v ((rdK x).run e) m⟩
 | .pick c a b=>⟨fun e m=>match (rdK c).run e with | .b true=>.v ((rdK a).run e) m | .b false=>.v ((rdK b).run e) m|_=>.bad⟩
 | .alloc t=>match xZeroT P t with
  | some z=>match z.cells with|some c=>⟨fun _ m=>.v (.p m.nx 0) (m.add (.cells c))⟩|none=>xBadK
  | none=>xBadK
 | .box _ x=>⟨fun e m=>match ((rdK x).run e).cells with|some c=>.v (.p m.nx 0) (m.add (.cells c))|none=>.bad⟩
 | .build t ps=>match xZeroT P t,P.underlying t with
  | some z,some (.struct fs)=>match allSz P fs.toList,z.cells with
   | true,some c=>⟨fun e m=>match (fillK (fldAt P fs.toList) ps.toList).run c e with|some l=>.v (.g l) m|none=>.bad⟩
   | _,_=>xBadK
  | some z,some (.array _ el)=>match xSzT P el,z.cells with
   | some n,some c=>⟨fun e m=>match (fillK (fun i=>some (Nat.mul i n,n)) ps.toList).run c e with|some l=>.v (.g l) m|none=>.bad⟩
   | _,_=>xBadK
  | _,_=>xBadK
 | .buildSlice t ln ps=>match P.underlying t with
  | some (.slice el)=>match xSzT P el,xZeroT P el,xZeroC P el with
   | some n,some z,some zc=>match z.cells,Nat.ble (Nat.mul ln n) 1000000,Nat.ble 1 (Nat.mul ln n),Nat.beq zc n with
    | some c,true,true,true=>⟨fun e m=>match (fillK (fun i=>some (Nat.mul i n,n)) ps.toList).run (xRepL c ln) e with
     | some l=>.v (.sl m.nx 0 ln true ln) (m.add (.cells l))
     | none=>.bad⟩
    | _,_,_,_=>xBadK
   | _,_,_=>xBadK
  | _=>xBadK
 | .load t a=>⟨fun e m=>match (rdK a).run e with
   | .p k off=>match m.row k with
    | some l=>match (partK P t).run (xDrp off l) with|some v=>.rd v k|none=>.bad
    | none=>.bad
   | _=>.bad⟩
 | .store t a v=>match xSzT P t with
  | some n=>⟨fun e m=>match (rdK a).run e with
   | .p k off=>match ((rdK v).run e).cells with
    | some c=>match Nat.beq (xLen c) n with
     | true=>match m.store k off c with|some m=>.v .undef m|none=>.bad
     | false=>.bad
    | none=>.bad
   | _=>.bad⟩
  | none=>xBadK
 | .nilCheck x=>⟨fun e m=>match (rdK x).run e with
   | .p k off=>.v (.p k off) m
   | _=>.bad⟩
 | .binOp op t x y _=>match flatT P t with
  | none=>match op with
   | .shl=>⟨fun e m=>match (rdK x).run e,(rdK y).run e with | .i k a,.i _ (.ofNat n)=>.v (.i k (k.wrap (a*2^(min n k.bits)))) m|_,_=>.bad⟩
   | .shr=>⟨fun e m=>match (rdK x).run e,(rdK y).run e with | .i k a,.i _ (.ofNat n)=>.v (.i k (a.fdiv (2^(min n k.bits)))) m|_,_=>.bad⟩
   | op=>⟨fun e m=>match (rdK x).run e,(rdK y).run e with
    | .i k a,.i k' b=>match xKind k k' with
     | true=>match (binKN op).run k a b with|some v=>.v v m|none=>.bad
     | false=>.bad
    | _,_=>.bad⟩
  | some ks=>match op with
   | .eql=>⟨fun e m=>match (rdK x).run e,(rdK y).run e with | .g a,.g b=>(match eqF ks a b with|some r=>.v (.b r) m|none=>.bad)|_,_=>.bad⟩
   | .neq=>⟨fun e m=>match (rdK x).run e,(rdK y).run e with | .g a,.g b=>(match eqF ks a b with|some r=>.v (.b !r) m|none=>.bad)|_,_=>.bad⟩
   | _=>xBadK
 | .unOp .not _ x=>⟨fun e m=>match (rdK x).run e with | .b v=>.v (.b !v) m|_=>.bad⟩
 | .convert s d x=>match P.underlying s,P.underlying d with
  | some (.int _),some (.int k)=>⟨fun e m=>match (rdK x).run e with | .i _ v=>.v (.i k (k.wrap v)) m|_=>.bad⟩
  | some .string,some (.slice el)=>match P.underlying el with
   | some (.int .u8)=>⟨fun e m=>match (rdK x).run e with
    | .s v=>.v (.sl m.nx 0 (xLen v) false 0) (m.add (.grow 1 (xBytesC v)))
    | _=>.bad⟩
   | _=>xBadK
  | _,_=>xBadK
 | .makeFunc (.func g) xs ys=>⟨fun e m=>.v (.f g ((rdsK xs.toList).run e) ((rdsK ys.toList).run e)) m⟩
 | .makeMap _ none=>⟨fun _ m=>.v (.m m.nx) (m.add (.map []))⟩
 | .makeChan t s=>match P.underlying t with
  | some (.chan _ el)=>match P.info? el with
   | some _=>⟨fun e m=>match (rdK s).run e with | .i _ (.ofNat 0)=>.v (.c m.nx) (m.add .chan)|_=>.bad⟩
   | none=>xBadK
  | _=>xBadK
 | .fieldAddr t x i=>match P.underlying t with
  | some (.struct fs)=>match fldAt P fs.toList i with
   | some (o,n)=>match Nat.ble 1 n with
    | true=>⟨fun e m=>match (rdK x).run e with | .p k off=>.v (.p k (Nat.add off o)) m|_=>.bad⟩
    | false=>xBadK
   | none=>xBadK
  | _=>xBadK
 | .indexAddr t x y=>match P.underlying t with
  | some (.slice el)=>match xSzT P el with
   | some n=>⟨fun e m=>match (rdK x).run e,(rdK y).run e with
    | .sl k off ln _ _,.i _ (.ofNat i)=>match Nat.ble (Nat.succ i) ln with|true=>.v (.p k (Nat.add off (Nat.mul i n))) m|false=>.bad
    | _,_=>.bad⟩
   | none=>xBadK
  | some (.array ln el)=>match xSzT P el with
   | some n=>⟨fun e m=>match (rdK x).run e,(rdK y).run e with
    | .p k off,.i _ (.ofNat i)=>match Nat.ble (Nat.succ i) ln with|true=>.v (.p k (Nat.add off (Nat.mul i n))) m|false=>.bad
    | _,_=>.bad⟩
   | none=>xBadK
  | _=>xBadK
 | .index t x y=>match P.underlying t with
  | some (.array ln el)=>match xSzT P el,xAggT P el with
   | some n,some false=>⟨fun e m=>match (rdK x).run e,(rdK y).run e with
    | .g l,.i _ (.ofNat i)=>match Nat.ble (Nat.succ i) ln,xNth (Nat.mul i n) l with|true,some v=>.v v m|_,_=>.bad
    | _,_=>.bad⟩
   | _,_=>xBadK
  | some .string=>⟨fun e m=>match (rdK x).run e,(rdK y).run e with
    | .s l,.i _ (.ofNat i)=>match xNth i l with|some b=>.v (.i .u8 (.ofNat b.toNat)) m|none=>.bad
    | _,_=>.bad⟩
  | _=>xBadK
 | .lookup t x y ok=>match P.underlying t with
  | some (.map kt el)=>match mapKind P kt,xZeroT P el with
   | some mk,some z=>⟨fun e m=>match (rdK x).run e with
    | .m k=>match m.obj k,keyOk mk ((rdK y).run e) with
     | some (.map es),true=>match findX mk ((rdK y).run e) es with
      | some (some v)=>.rd (match ok with|true=>.t [v,.b true]|false=>v) k
      | some none=>.rd (match ok with|true=>.t [z,.b false]|false=>z) k
      | none=>.bad
     | _,_=>.bad
    | _=>.bad⟩
   | _,_=>xBadK
  | _=>xBadK
 | .mapUpdate t x y z=>match P.underlying t with
  | some (.map kt _)=>match mapKind P kt with
   | some mk=>⟨fun e m=>match (rdK x).run e with
    | .m k=>match m.M.get k,keyOk mk ((rdK y).run e) with
     | some (.own (.map es)),true=>match putX mk ((rdK y).run e) ((rdK z).run e) es with
      | some es=>.v .undef (m.put k (.map es))
      | none=>.bad
     | _,_=>.bad
    | _=>.bad⟩
   | none=>xBadK
  | _=>xBadK
 | .slice t x (some lo) none none=>match P.underlying t with
  | some (.slice el)=>match xSzT P el with
   | some n=>⟨fun e m=>match (rdK x).run e,(rdK lo).run e with
    | .sl k off ln true c,.i _ (.ofNat a)=>match Nat.ble a ln with
     | true=>.v (.sl k (match Nat.beq c a with|true=>off|false=>Nat.add off (Nat.mul a n)) (Nat.sub ln a) true (Nat.sub c a)) m
     | false=>.bad
    | _,_=>.bad⟩
   | none=>xBadK
  | _=>xBadK
 | .extract x i=>⟨fun e m=>match (rdK x).run e with | .t l=>xVOf m (xNth i l)|_=>.bad⟩
 | .call c=>match c.callee with
  | .builtin b=>⟨fun e m=>(builtinK P b c.argTypes.toList).run ((rdsK c.args.toList).run e) m⟩
  | .value x=>⟨fun e _=>callK P ((rdK x).run e) ((rdsK c.args.toList).run e)⟩
  | _=>xBadK
 | .go c=>match c.callee with
  | .value x=>⟨fun e _=>.go ((rdK x).run e) ((rdsK c.args.toList).run e)⟩
  | _=>xBadK
 | .defer c=>match c.callee,c.args.toList with
  | .builtin .close,[.tmp t]=>⟨fun e _=>match e.get t with|some x=>.dclose x|none=>.bad⟩
  | _,_=>xBadK
 | .send x y=>⟨fun e _=>match (rdK x).run e with | .c k=>.send k ((rdK y).run e)|_=>.bad⟩
 | .recv t x ok=>match P.underlying t with
  | some (.chan _ el)=>match xZeroT P el with
   | some _=>⟨fun e _=>match (rdK x).run e with | .c k=>.recv k ok|_=>.bad⟩
   | none=>xBadK
  | _=>xBadK
 | _=>xBadK
/-- Operations that do nothing but yield a value. -/
noncomputable def xMild:Op→Bool
 | .move _ | .assign _ | .pick .. | .build .. | .load .. | .nilCheck _ | .binOp .. | .unOp .. | .makeFunc .. | .fieldAddr .. | .indexAddr .. | .index .. | .lookup .. | .extract .. | .slice .. | .convert ..=>true
 | .call {callee:=.builtin .len,..} | .call {callee:=.builtin .min,..} | .call {callee:=.builtin .max,..}=>true
 | _=>false
/-- It may be carried out early: an allocation that waits for nothing. -/
noncomputable def xEarly(l:List Oper)(j:Nat):Bool:=match l[j]? with
 | some o=>(match o.op,o.dst,o.guard with | .alloc _,some _,none=>true|_,_,_=>false)&&o.after.toList.isEmpty&&Ahv l (List.replicate l.length false) j
 | none=>false
noncomputable def xFloat(l:List Oper):Option Nat:=(List.range l.length).find? (xEarly l)
/-- What comes up when the early one has come up. -/
noncomputable def xRest0(l:List Oper)(fl:Option Nat)(li:List Bool)(i:Nat):List Nat :=
 Dl l (match fl with|some f=>(match Nat.beq f i with|true=>li|false=>li.set f true)|none=>li)
/-- Nothing else may come up,but for what may be early. -/
noncomputable def xOnly(l:List Oper)(fl:Option Nat)(li:List Bool)(i:Nat):Bool:=(xRest0 l fl li i).all (Nat.beq i)
noncomputable def xTake(l:List Oper)(li:List Bool)(i:Nat):Bool:=(match l[i]? with|some o=>xMild o.op&&o.dst.isSome|none=>false)&&Ahv l li i
/-- The early one may still come. -/
noncomputable def xFp(fl:Option Nat)(li:List Bool)(i:Nat):Bool:=match fl with
 | some f=>!(li.getD f true) && !(Nat.beq f i)
 | none=>false
/-- (number,taken first,the early one may come here) -/
noncomputable def xPlan(l:List Oper)(fl:Option Nat):Nat→List Bool→List (Nat×Bool×Bool)
 | 0,_=>[]
 | n+1,li=>match (Dl l li).filter (fun i=>match fl with|some f=>!(Nat.beq f i)|none=>true) with
  | []=>match fl with
   | some f=>match li.getD f true with
    | true=>[]
    | false=>(f,false,false)::xPlan l fl n (li.set f true)
   | none=>[]
  | r::rs=>match xOnly l fl li r with
   | true=>(r,false,xFp fl li r)::xPlan l fl n (li.set r true)
   | false=>match (r::rs).find? (xTake l li) with
    | some i=>(i,true,false)::xPlan l fl n (li.set i true)
    | none=>[]
noncomputable def xLate(l:List Oper)(pz:List Nat)(i:Nat):Bool:=match l[i]? with
 | some o=>pz.all fun j=>o.after.toList.any fun e=>Region.binds .any e&&e.on==j
 | none=>false
/-- The plan may be followed. -/
noncomputable def xGood(l:List Oper)(fl:Option Nat)(pz:List Nat):List (Nat×Bool×Bool)→List Bool→Bool
 | [],li=>match Dl l li with|[]=>true|_=>false
 | (i,tk,fp)::r,li=>(Dl l li).contains i&&(match tk with
   | true=>pz.contains i&&xTake l li i&&(match fl with|some f=>!(Nat.beq f i)|none=>true)
   | false=>xOnly l fl li i&&(match xFp fl li i with|true=>fp|false=>true))&&xGood l fl pz r (li.set i true)
inductive R where
 | n (s:St)
 | x (id:Nat) (s:St)
 | r (s:St)
 | bad
inductive RV where
 | v (x:CV) (m:Mem)
 | bad
/-- mn: the first goroutine;ch: what is sent over. -/
structure Fns where
 mn:Bool
 ch:Nat
 code:Nat→Option Nat→Code→St→R
 call:FuncId→List CV→Mem→RV
 send:FuncId→List CV→Mem→Nat→Option (List CV)
/-- What an operation brings. -/
inductive OV where
 | v (x:CV) (m:Mem) (ds:List CD)
 | bad
noncomputable def xKeysV:CV→List Nat:=CV.rec (motive_1:=fun _=>List Nat) (motive_2:=fun _=>List Nat) [] (fun _=>[]) (fun _ _=>[]) (fun _=>[]) [] (fun k _=>[k]) [] (fun k _ _ _ _=>[k]) [] (fun k=>[k]) [] (fun _=>[]) [] (fun _ _ _ a b=>xApp a b) (fun _=>[]) [] (fun _ _ a=>a) (fun _ a=>a) (fun _ a=>a) [] (fun _ _ a b=>xApp a b)
noncomputable def xKeysL(l:List CV):List Nat:=List.rec (motive:=fun _=>List Nat) [] (fun a _ ih=>xApp (xKeysV a) ih) l
noncomputable def xKeysO:CO→List Nat
 | .cells l=>xKeysL l
 | .grow _ l=>xKeysL l
 | .map es=>xKeysL (es.map (·.1))++xKeysL (es.map (·.2))
 | _=>[]
/-- What can be reached is shared. -/
noncomputable def xShare(n:Nat):List Nat→Tr Cell→Tr Cell:=Nat.rec (motive:=fun _=>List Nat→Tr Cell→Tr Cell) (fun _ M=>M)
 (fun _ ih l M=>match l with
  | []=>M
  | k::l=>match M.get k with
   | some (.own (.cells c))=>ih (xApp (xKeysL c) l) (M.set k (.ro (.cells c)))
   | some (.own (.grow z c))=>ih (xApp (xKeysL c) l) (M.set k (.ro (.grow z c)))
   | some (.own (.map es))=>ih (xApp (xKeysO (.map es)) l) (M.set k (.ro (.map es)))
   | _=>ih l M) n
noncomputable def xIsRcv:Option Cell→Bool
 | some (.own (.rcv _))=>true
 | _=>false
noncomputable def xNoRcv(t:Tr Cell):Bool:=Tr.rec (motive:=fun _=>Bool) true (fun v _ _ a b=>match xIsRcv v with|true=>false|false=>match a with|true=>b|false=>false) t
noncomputable def xRoOf:Option Cell→Option Cell
 | some (.ro o)=>some (.ro o)
 | _=>none
noncomputable def xOnlyRo(t:Tr Cell):Tr Cell:=Tr.rec (motive:=fun _=>Tr Cell) .leaf (fun v _ _ a b=>.node (xRoOf v) a b) t
noncomputable def xPutP(ps:List Tmp):List CV→Tr CV→Tr CV:=List.rec (motive:=fun _=>List CV→Tr CV→Tr CV) (fun _ e=>e) (fun t _ ih l e=>match l with|a::l=>ih l (e.set t a)|[]=>e) ps
noncomputable def xArgEnv(args:List CV):Nat→Tr CV→Tr CV:=List.rec (motive:=fun _=>Nat→Tr CV→Tr CV) (fun _ e=>e) (fun a _ ih i e=>ih (Nat.succ i) (e.set i a)) args
noncomputable def xChanOf(l:List CV):Option Nat:=List.rec (motive:=fun _=>Option Nat) none (fun a _ ih=>match a with | .c k=>some k|_=>ih) l
noncomputable def xRev(l:List CV):List CV→List CV:=List.rec (motive:=fun _=>List CV→List CV) (fun r=>r) (fun a _ ih r=>ih (a::r)) l
noncomputable def xAllLt(n:Nat)(l:List Nat):Bool:=List.rec (motive:=fun _=>Bool) true (fun t _ ih=>match Nat.ble (Nat.succ t) n with|true=>ih|false=>false) l
noncomputable def xRest(m:Mem)(o:List CV):Mem:=⟨m.M,m.nx,m.log,m.ln,o⟩
noncomputable def xEndRound(m:Mem)(ds:List CD)(k:Nat)(j:Option Code):OV:=match m.M.get k with
 | some (.own (.loop _ _ n env ps as_ body dk))=>.v (.b (match j with|none=>true|some _=>false)) (m.put k (.loop (match j with|none=>0|some _=>2) j n env ps as_ body dk)) ds
 | _=>.bad
/-- An operation's result,carried out. -/
noncomputable def doOR(F:Fns)(st:St):OR→OV
 | .v x m=>.v x m st.ds
 | .rd x _=>.v x st.m st.ds
 | .enter f args=>match F.call f args st.m with | .v x m=>.v x (xRest m st.m.outs) st.ds | .bad=>.bad
 | .round k args=>match st.m.M.get k with
  | some (.own (.loop 0 _ n env ps as_ body _))=>match Nat.beq (xLen args) (xLen ps),xAllLt n ps with
   | true,true=>match F.code n (some k) as_ ⟨xPutP ps args env,st.m,[]⟩ with
    | .n st1=>match st1.ds,st1.m.M.get k with
     | [],some (.own (.loop 0 pd n' env' ps' as' body' dk'))=>match F.code n (some k) body ⟨st1.e,st1.m.put k (.loop 1 pd n' env' ps' as' body' dk'),[]⟩ with
      | .n st3=>xEndRound (xRest st3.m st.m.outs) st.ds k none
      | .x id st3=>xEndRound (xRest st3.m st.m.outs) st.ds k (some (.exit id))
      | .r st3=>xEndRound (xRest st3.m st.m.outs) st.ds k (some .ret)
      | .bad=>.bad
     | _,_=>.bad
    | _=>.bad
   | _,_=>.bad
  | _=>.bad
 | _=>.bad
/-- What is more in the text's order: a goroutine is started,something is received. -/
noncomputable def doX1(F:Fns)(_:Option Nat)(st:St):OR→OV
 | .go f args=>match F.mn,f with
  | true,.f g [] [] =>
   let all:=args
   match xNoRcv st.m.M,xChanOf all with
   | true,some k =>
    let M:=xShare 100000 (xKeysL all) st.m.M
    match M.get k,F.send g all ⟨xOnlyRo M,st.m.nx,[],0,[]⟩ k with
    | some (.own .chan),some outs=>.v .undef ⟨M.set k (.own (.rcv (xRev outs []))),st.m.nx,k::st.m.log,Nat.succ st.m.ln,st.m.outs⟩ st.ds
    | _,_=>.bad
   | _,_=>.bad
  | _,_=>.bad
 | .recv k ok=>match F.mn,ok with
  | true,true=>match st.m.M.get k with
   | some (.own (.rcv (v::vs)))=>.v (.t [v,.b true]) (st.m.put k (.rcv vs)) st.ds
   | some (.own (.rcv []))=>.v (.t [.bad,.b false]) (st.m.put k .dead) st.ds
   | _=>.bad
  | _,_=>.bad
 | y=>doOR F st y
/-- It tells its value by itself. -/
noncomputable def xPlainV:CV→Bool
 | .b _ | .i _ _ | .s _=>true
 | _=>false
/-- What is more for a sender. -/
noncomputable def doS1(F:Fns)(rd:Option Nat)(st:St):OR→OV
 | .send k x=>match Nat.beq k F.ch,xPlainV x with
  | true,true=>.v .undef (xRest st.m (x::st.m.outs)) st.ds
  | _,_=>.bad
 | .dclose x=>match rd,x,st.ds with
  | none,.c k,[]=>match Nat.beq k F.ch with|true=>.v .undef st.m [.close k]|false=>.bad
  | _,_,_=>.bad
 | y=>doOR F st y
/-- Nothing is left open in it. -/
noncomputable def xOkV:CV→Bool:=CV.rec (motive_1:=fun _=>Bool) (motive_2:=fun _=>Bool) false (fun _=>true) (fun _ _=>true) (fun _=>true) true (fun _ _=>true) true (fun _ _ _ _ _=>true) true (fun _=>true) true (fun _=>true) true (fun _ _ _ a b=>a&&b) (fun _=>true) true (fun _ _ a=>a) (fun _ a=>a) (fun _ a=>a) true (fun _ _ a b=>a&&b)
structure KS where
 run:Fns→Option Nat→St→R
structure KD where
 run:Fns→Option Nat→List Nat→List Nat→Nat→Nat→Nat→St→R
structure KG where
 run:Tr CV→Bool
structure KP where
 run:Tr CV→CV→Tr CV
/-- Whether goroutines may be started;operations. -/
structure DX where
 gl:Bool
 run:Fns→Option Nat→St→OR→OV
noncomputable def doX:DX:=⟨true,doX1⟩
noncomputable def doS:DX:=⟨false,doS1⟩
noncomputable def dstK:Option Tmp→KP
 | some d=>⟨fun e v=>e.set d v⟩
 | none=>⟨fun e _=>e⟩
noncomputable def guardK(l:List Oper)(o:Oper):KG:=match o.guard with
 | none=>⟨fun _=>true⟩
 | some (j,w)=>match (l[j]?).bind (·.dst) with
  | some d=>⟨fun e=>match e.get d with|some (.b x)=>(match x,w with|true,true=>true|false,false=>true|_,_=>false)|_=>false⟩
  | none=>⟨fun _=>false⟩
/-- The guard is told. -/
noncomputable def gokK(l:List Oper)(o:Oper):KG:=match o.guard with
 | none=>⟨fun _=>true⟩
 | some (j,_)=>match (l[j]?).bind (·.dst) with
  | some d=>⟨fun e=>match e.get d with|some (.b _)=>true|some (.t _)=>true|_=>false⟩
  | none=>⟨fun _=>false⟩
/-- A region in the text's order. -/
noncomputable def textK(P:Program)(dx:DX)(l:List Oper):List Oper→KS
 | []=>⟨fun _ _ st=>.n st⟩
 | o::r=>match opK P o.op,dstK o.dst,guardK l o,gokK l o,textK P dx l r with
  | ⟨f⟩,⟨d⟩,⟨g⟩,⟨gk⟩,⟨k⟩=>⟨fun F rd st=>match gk st.e with
   | false=>.bad
   | true=>match g st.e with
    | false=>k F rd ⟨d st.e .undef,st.m,st.ds⟩
    | true=>match dx.run F rd st (f st.e st.m) with
     | .v x m ds=>k F rd ⟨d st.e x,m,ds⟩
     | .bad=>.bad⟩
noncomputable def xNoneOf(K:List Nat)(n:Nat):List Nat→Bool:=Nat.rec (motive:=fun _=>List Nat→Bool) (fun _=>true)
 (fun _ ih l=>match l with|[]=>true|k::l=>match K.any (Nat.beq k) with|true=>false|false=>ih l) n
noncomputable def xFpc(fp:Bool)(pz:List Nat):Bool:=match fp,pz with
 | true,_::_=>true
 | _,_=>false
/-- A region whose order is open. -/
noncomputable def anyK(P:Program)(l:List Oper)(pz:List Nat):List (Nat×Bool×Bool)→KD
 | []=>⟨fun _ _ K lg ln n0 _ st=>match xNoneOf K (Nat.sub ln n0) lg with|true=>.n st|false=>.bad⟩
 | (i,tk,fp)::r=>match l[i]?,anyK P l pz r with
  | none,_=>⟨fun _ _ _ _ _ _ _ _=>.bad⟩
  | some o,⟨k⟩=>match opK P o.op,dstK o.dst,guardK l o,gokK l o,xLate l pz i,tk,xFpc fp pz with
   | ⟨f⟩,⟨d⟩,⟨g⟩,⟨gk⟩,_,true,_=>⟨fun F rd K lg ln n0 nx0 st=>match Nat.beq ln st.m.ln,gk st.e with
    | true,true=>match g st.e with
     | false=>k F rd K lg ln n0 nx0 ⟨d st.e .undef,st.m,st.ds⟩
     | true=>match f st.e st.m with
      | .rd x q=>match xOkV x,Nat.ble (Nat.succ q) nx0 with
       | true,true=>k F rd (q::K) lg ln n0 nx0 ⟨d st.e x,st.m,st.ds⟩
       | _,_=>.bad
      | .v x m=>match Nat.beq m.nx st.m.nx with
       | true=>k F rd K lg ln n0 nx0 ⟨d st.e x,st.m,st.ds⟩
       | false=>.bad
      | _=>.bad
    | _,_=>.bad⟩
   | ⟨f⟩,⟨d⟩,⟨g⟩,⟨gk⟩,late,false,fc=>⟨fun F rd K lg ln n0 nx0 st=>match (match fc with|true=>Nat.beq ln st.m.ln|false=>true),gk st.e with
    | true,true=>match (match g st.e with|false=>OV.v .undef st.m st.ds|true=>doOR F st (f st.e st.m)) with
     | .v x m ds=>match late with
      | true=>k F rd K lg ln n0 nx0 ⟨d st.e x,m,ds⟩
      | false=>k F rd K m.log m.ln n0 nx0 ⟨d st.e x,m,ds⟩
     | .bad=>.bad
    | _,_=>.bad⟩
noncomputable def xSlotsN(n:Nat):List Oper→Bool
 | []=>true
 | o::l=>match o.dst with
  | some d=>match Nat.ble (Nat.succ d) n with|true=>xSlotsN n l|false=>false
  | none=>xSlotsN n l
noncomputable def xPz(p:List (Nat×Bool×Bool)):List Nat:=(p.filter (·.2.1)).map (·.1)
/-- The early one's zero value is known. -/
noncomputable def xAlOk(P:Program)(l:List Oper):Option Nat→Bool
 | none=>true
 | some f=>match l[f]? with
  | some o=>match o.op with
   | .alloc t=>match xZeroT P t with
    | some z=>match z.cells with|some _=>true|none=>false
    | none=>false
   | _=>false
  | none=>false
/-- A drawn region that starts no goroutine. -/
noncomputable def drawK(P:Program)(l:List Oper):KS:=match Apw l,P.follows .mixedOrders,xAlOk P l (xFloat l) with
 | true,true,true =>
  let p:=xPlan l (xFloat l) l.length (List.replicate l.length false)
  let pz:=xPz p
  match xGood l (xFloat l) pz p (List.replicate l.length false),anyK P l pz p with
  | true,⟨k⟩=>⟨fun F rd st=>k F rd [] st.m.log st.m.ln st.m.ln st.m.nx st⟩
  | false,_=>⟨fun _ _ _=>.bad⟩
 | _,_,_=>⟨fun _ _ _=>.bad⟩
noncomputable def xGoLast(l:List Oper):Bool:=match l.getLast? with
 | some o=>match o.op with | .go _=>true|_=>false
 | none=>false
noncomputable def regK(P:Program)(dx:DX)(n:Nat)(l:List Oper)(draw:Bool):KS:=match xSlotsN n l with
 | false=>⟨fun _ _ _=>.bad⟩
 | true=>match draw with
  | false=>textK P dx l l
  | true=>match xGoLast l,dx.gl with
   | false,_=>drawK P l
   | true,false=>⟨fun _ _ _=>.bad⟩
   | true,true=>match Adh (l.take (l.length-1)),Amp (l.take (l.length-1)) l,drawK P (l.take (l.length-1)),textK P dx l (l.drop (l.length-1)) with
    | true,true,⟨f⟩,⟨g⟩=>⟨fun F rd st=>match f F rd st with | .n st=>g F rd st|_=>.bad⟩
    | _,_,_,_=>⟨fun _ _ _=>.bad⟩
structure KC where
 run:Fns→Option Nat→St→R
noncomputable def xLoopR(f:Fns→Option Nat→St→R)(F:Fns)(rd:Option Nat)(n:Nat):St→R:=Nat.rec (motive:=fun _=>St→R) (fun _=>.bad)
 (fun _ ih st=>match f F rd st with | .n st=>ih st|y=>y) n
/-- A range over a function,from where its record has been laid. -/
noncomputable def xRange(F:Fns)(n:Nat)(ps:List Tmp)(as_ body:Code)(g:FuncId)(ys:List CV)(e:Tr CV)(dk:Nat)(m:Mem)(ds:List CD):R :=
 match F.call g (.y m.nx::ys) (m.add (.loop 0 none n e ps as_ body dk)) with
 | .v _ m'=>match m'.M.get m.nx with
  | some (.own (.loop b pd n' env ps' as' body' dk'))=>match Nat.beq b 1 with
   | true=>.bad
   | false=>match pd with
    | none=>.n ⟨e,xRest (m'.put m.nx (.loop 3 none n' env ps' as' body' dk')) m.outs,ds⟩
    | some c=>match c with
     | .exit id=>.x id ⟨e,xRest (m'.put m.nx (.loop 3 pd n' env ps' as' body' dk')) m.outs,ds⟩
     | .ret=>.r ⟨e,xRest (m'.put m.nx (.loop 3 pd n' env ps' as' body' dk')) m.outs,ds⟩
     | _=>.bad
  | _=>.bad
 | .bad=>.bad
noncomputable def codeK(P:Program)(dx:DX)(n:Nat):Code→KC
 | .skip=>⟨fun _ _ st=>.n st⟩
 | .region _ ops draw=>match regK P dx n ops.toList draw with|⟨k⟩=>⟨fun F rd st=>k F rd st⟩
 | .seq a b=>match codeK P dx n a,codeK P dx n b with
  | ⟨f⟩,⟨g⟩=>⟨fun F rd st=>match f F rd st with | .n st=>g F rd st|y=>y⟩
 | .cond c a b=>match rdK c,codeK P dx n a,codeK P dx n b with
  | ⟨c⟩,⟨f⟩,⟨g⟩=>⟨fun F rd st=>match c st.e with | .b true=>f F rd st | .b false=>g F rd st|_=>.bad⟩
 | .block id a=>match codeK P dx n a with
  | ⟨f⟩=>⟨fun F rd st=>match f F rd st with | .x j st=>(match Nat.beq j id with|true=>.n st|false=>.x j st)|y=>y⟩
 | .loop a=>match codeK P dx n a with|⟨f⟩=>⟨fun F rd st=>xLoopR f F rd 1000000 st⟩
 | .exit id=>⟨fun _ _ st=>.x id st⟩
 | .ret=>⟨fun _ _ st=>.r st⟩
 | .rangeFunc f ps as_ body=>match rdK f,xAllLt n ps.toList with
  | ⟨f⟩,true=>⟨fun F rd st=>match f st.e with
   | .f g [] ys=>match xHasBody P g with
    | true=>match rd with
     | some l=>match st.m.M.get l with|some (.own (.loop _ _ _ _ _ _ _ dk))=>xRange F n ps.toList as_ body g ys st.e dk st.m st.ds|_=>.bad
     | none=>xRange F n ps.toList as_ body g ys st.e st.m.nx (st.m.add .defd) (.mark st.m.nx::st.ds)
    | false=>.bad
   | _=>.bad⟩
  | _,false=>⟨fun _ _ _=>.bad⟩
 | _=>⟨fun _ _ _=>.bad⟩
structure KR where
 run:Tr CV→Mem→Option (List CV)
noncomputable def resK(P:Program):List ResultVar→KR
 | []=>⟨fun _ _=>some []⟩
 | .tmp t::l=>match resK P l with|⟨g⟩=>⟨fun e m=>match g e m with|some r=>some ((match e.get t with|some v=>v|none=>.bad)::r)|none=>none⟩
 | .cell a t::l=>match resK P l,partK P t with
  | ⟨g⟩,⟨h⟩=>⟨fun e m=>match e.get a with
   | some (.p k off)=>match m.row k with
    | some c=>match h (xDrp off c),g e m with|some v,some r=>some (v::r)|_,_=>none
    | none=>none
   | _=>none⟩
structure KF where
 run:Fns→List CV→Mem→RV
noncomputable def xDefersR(l:List CD):Mem→Option Mem:=List.rec (motive:=fun _=>Mem→Option Mem) (fun m=>some m)
 (fun d _ ih m=>match d with
  | .mark k=>match m.M.get k with|some (.own .defd)=>ih (m.put k .dead)|_=>none
  | .close _=>none) l
noncomputable def xFin(h:Tr CV→Mem→Option (List CV))(st:St):RV:=match xDefersR st.ds st.m with
 | some m=>match h st.e m with
  | some [v]=>.v v m
  | some l=>.v (.t l) m
  | none=>.bad
 | none=>.bad
noncomputable def funK(P:Program)(g:Nat):KF:=match P.funcs[g]? with
 | some fn=>match fn.body with
  | some c=>match codeK P doX fn.ntmps c,resK P fn.results.toList,fn.ntmps with
   | ⟨f⟩,⟨h⟩,n=>⟨fun F args m=>match Nat.ble (xLen args) n with
    | true=>match f F none ⟨xArgEnv args 0 .leaf,m,[]⟩ with
     | .n st=>xFin h st
     | .r st=>xFin h st
     | _=>.bad
    | false=>.bad⟩
  | none=>⟨fun _ _ _=>.bad⟩
 | none=>⟨fun _ _ _=>.bad⟩
structure KX where
 run:Fns→List CV→Mem→Nat→Option (List CV)
noncomputable def xFinS(k:Nat)(st:St):Option (List CV):=match st.ds with|[.close j]=>(match Nat.beq j k with|true=>some st.m.outs|false=>none)|_=>none
/-- A sender. -/
noncomputable def sendK(P:Program)(g:Nat):KX:=match P.funcs[g]?,xHasBody P g with
 | some fn,true=>match fn.body,fn.results.toList with
  | some c,[]=>match codeK P doS fn.ntmps c,fn.ntmps with
   | ⟨f⟩,n=>⟨fun F args m k=>match Nat.ble (xLen args) n with
    | true=>match f ⟨false,k,F.code,F.call,F.send⟩ none ⟨xArgEnv args 0 .leaf,m,[]⟩ with
     | .n st=>xFinS k st
     | .r st=>xFinS k st
     | _=>none
    | false=>none⟩
  | _,_=>⟨fun _ _ _ _=>none⟩
 | _,_=>⟨fun _ _ _ _=>none⟩
/-- The runs of a worker's functions,n calls deep. -/
noncomputable def xWF(P:Program)(n:Nat):Fns:=Nat.rec ⟨false,0,fun _ _ _ _=>.bad,fun _ _ _=>.bad,fun _ _ _ _=>none⟩
 (fun _ F=>⟨false,0,fun n rd c st=>match codeK P doX n c with|⟨f⟩=>f F rd st,fun g args m=>match funK P g with|⟨f⟩=>f F args m,fun _ _ _ _=>none⟩) n
noncomputable def xFns(P:Program)(n:Nat):Fns:=Nat.rec ⟨true,0,fun _ _ _ _=>.bad,fun _ _ _=>.bad,fun _ _ _ _=>none⟩
 (fun n F=>⟨true,0,fun n rd c st=>match codeK P doX n c with|⟨f⟩=>f F rd st,fun g args m=>match funK P g with|⟨f⟩=>f F args m,
  fun g args m k=>match sendK P g with|⟨f⟩=>f (xWF P n) args m k⟩) n
theorem Awf{α:Type}(a b:α)(x y:Nat):(Bool.rec a b (Nat.beq x y):α)=if x=y then b else a:=by
 by_cases h:x=y
 ·subst h;simp
 ·have:Nat.beq x y=false:=by
   cases hb:Nat.beq x y with
   | false=>rfl
   | true=>exact absurd (Sp hb) h
  rw[this,if_neg h]
theorem Tr.get_leaf{α:Type}(k:Nat):(Tr.leaf:Tr α).get k=none:=rfl
theorem Tr.get_node{α:Type}(v:Option α)(l r:Tr α)(k:Nat):(Tr.node v l r).get k=if k=0 then v else if k%2=0 then r.get (k/2-1) else l.get (k/2):=by
 show (Bool.rec (Bool.rec (l.get (k/2)) (r.get (k/2-1)) (Nat.beq (k%2) 0)) v (Nat.beq k 0):Option α)=_
 rw[Awf,Awf]
theorem Tr.put_leaf{α:Type}(n k:Nat)(a:α):Tr.put (n+1) .leaf k a=if k=0 then .node (some a) .leaf .leaf else if k%2=0 then .node none .leaf (Tr.put n .leaf (k/2-1) a) else .node none (Tr.put n .leaf (k/2) a) .leaf:=by
 show (Bool.rec (Bool.rec (.node none (Tr.put n .leaf (k/2) a) .leaf) (.node none .leaf (Tr.put n .leaf (k/2-1) a)) (Nat.beq (k%2) 0)) (.node (some a) .leaf .leaf) (Nat.beq k 0):Tr α)=_
 rw[Awf,Awf]
theorem Tr.put_node{α:Type}(n k:Nat)(v:Option α)(l r:Tr α)(a:α):Tr.put (n+1) (.node v l r) k a=if k=0 then .node (some a) l r else if k%2=0 then .node v l (Tr.put n r (k/2-1) a) else .node v (Tr.put n l (k/2) a) r:=by
 show (Bool.rec (Bool.rec (.node v (Tr.put n l (k/2) a) r) (.node v l (Tr.put n r (k/2-1) a)) (Nat.beq (k%2) 0)) (.node (some a) l r) (Nat.beq k 0):Tr α)=_
 rw[Awf,Awf]
theorem Tr.get_put{α:Type}:∀(n:Nat) (t:Tr α) (k:Nat) (a:α) (j:Nat),k<n→(Tr.put n t k a).get j=if j=k then some a else t.get j
 | 0,_,_,_,_,h=>absurd h (Sg _)
 | n+1,t,k,a,j,h=>by
  have key:∀(v:Option α) (l r:Tr α),(Tr.put (n+1) (.node v l r) k a).get j=if j=k then some a else (Tr.node v l r).get j:=fun v l r=>by
   rw[Tr.put_node]
   by_cases hk:k=0
   ·subst hk
    rw[if_pos rfl,Tr.get_node,Tr.get_node]
    by_cases hj:j=0
    ·rw[if_pos hj,if_pos hj]
    ·rw[if_neg hj,if_neg hj,if_neg hj]
   ·rw[if_neg hk]
    by_cases h2:k%2=0
    ·rw[if_pos h2,Tr.get_node,Tr.get_node,Tr.get_put n r _ a _ (by omega)]
     by_cases hj:j=0
     ·subst hj;rw[if_pos rfl,if_pos rfl,if_neg (by omega)]
     ·rw[if_neg hj,if_neg hj]
      by_cases hj2:j%2=0
      ·rw[if_pos hj2,if_pos hj2]
       by_cases hjk:j=k
       ·rw[if_pos (by omega),if_pos hjk]
       ·rw[if_neg (by omega),if_neg hjk]
      ·rw[if_neg hj2,if_neg hj2,if_neg (by omega)]
    ·rw[if_neg h2,Tr.get_node,Tr.get_node,Tr.get_put n l _ a _ (by omega)]
     by_cases hj:j=0
     ·subst hj;rw[if_pos rfl,if_pos rfl,if_neg (by omega)]
     ·rw[if_neg hj,if_neg hj]
      by_cases hj2:j%2=0
      ·rw[if_pos hj2,if_pos hj2,if_neg (by omega)]
      ·rw[if_neg hj2,if_neg hj2]
       by_cases hjk:j=k
       ·rw[if_pos (by omega),if_pos hjk]
       ·rw[if_neg (by omega),if_neg hjk]
  cases t with
  | node v l r=>exact key v l r
  | leaf =>
   have e:Tr.put (n+1) .leaf k a=Tr.put (n+1) (.node none .leaf .leaf) k a:=by rw[Tr.put_leaf,Tr.put_node]
   rw[e,key none .leaf .leaf,Tr.get_node,Tr.get_leaf]
   simp[Tr.get_leaf]
theorem Tr.get_set{α:Type}(t:Tr α)(k:Nat)(a:α)(j:Nat):(t.set k a).get j=if j=k then some a else t.get j:=Tr.get_put _ t k a j (Azx _)
theorem Arp{α:Type}:∀(n:Nat) (l:List α),xDrp n l=l.drop n
 | 0,l=>rfl
 | n+1,[]=>by simp[xDrp]
 | n+1,a::l=>Arp n l
theorem Ars{α:Type}:∀(n:Nat) (l r:List α),xTkn n l=some r→n≤l.length∧r=l.take n
 | 0,l,r,h=>by cases h;exact⟨Gn _,rfl⟩
 | n+1,[],r,h=>by cases h
 | n+1,a::l,r,h=>by
  have h':(match xTkn n l with|some r=>some (a::r)|none=>none)=some r:=h
  cases hx:xTkn n l with
  | none=>rw[hx]at h';cases h'
  | some r' =>
   rw[hx]at h';cases h'
   obtain⟨b,c⟩:=Ars n l r' hx
   exact⟨Aty b,by rw[c];rfl⟩
theorem Ahq{α:Type}:∀(n:Nat) (l:List α),xNth n l=l[n]?
 | 0,[]=>rfl
 | 0,a::l=>rfl
 | n+1,[]=>rfl
 | n+1,a::l=>by rw[Adm];exact Ahq n l
theorem Aeh{α:Type}:∀(x y:List α),xApp x y=x++y
 | [],y=>rfl
 | a::x,y=>by rw[Ts,←Aeh x y];rfl
theorem Rz{α:Type}:∀(x:List α),xLen x=x.length
 | []=>rfl
 | a::x=>by rw[lZ3,←Rz x];rfl
theorem Avt:∀(vs l r:List CV),xOver vs l=some r→vs.length≤l.length∧r=vs++l.drop vs.length
 | [],l,r,h=>by cases h;exact⟨Gn _,rfl⟩
 | v::vs,[],r,h=>by cases h
 | v::vs,a::l,r,h=>by
  have h':(match xOver vs l with|some r=>some (v::r)|none=>none)=some r:=h
  cases hx:xOver vs l with
  | none=>rw[hx]at h';cases h'
  | some r' =>
   rw[hx]at h';cases h'
   obtain⟨b,c⟩:=Avt vs l r' hx
   exact⟨Aty b,by rw[c];rfl⟩
theorem Avu:∀(n:Nat) (vs l r:List CV),xSetL n vs l=some r→n+vs.length≤l.length∧r=l.take n++(vs++l.drop (n+vs.length))
 | 0,vs,l,r,h=>by
  obtain⟨h1,h2⟩:=Avt vs l r h
  exact⟨by omega,by rw[h2];simp⟩
 | n+1,vs,[],r,h=>by cases h
 | n+1,vs,a::l,r,h=>by
  have h':(match xSetL n vs l with|some r=>some (a::r)|none=>none)=some r:=h
  cases hx:xSetL n vs l with
  | none=>rw[hx]at h';cases h'
  | some r' =>
   rw[hx]at h';cases h'
   obtain⟨h1,h2⟩:=Avu n vs l r' hx
   refine⟨by simp only[lZ3];omega,?_⟩
   rw[h2,show n+1+vs.length=(n+vs.length)+1 by omega];rfl
/-- Where the blocks of one's own numbers lie,and how many elements a row that grows has room for. -/
abbrev XR:=Nat→Option (Nat×Nat)
def XR.le(R R':XR):Prop:=∀k q,R k=some q→R' k=some q
theorem XR.le.refl{R:XR}:XR.le R R:=fun _ _ h=>h
theorem XR.le.trans{R R' R'':XR}(h:XR.le R R')(h':XR.le R' R''):XR.le R R'':=fun k q hk=>h' k q (h k q hk)
inductive VR(R:XR):List CV→List Value→Prop
 | nil:VR R [] []
 | bad {l:List CV} {l':List Value} (v:Value):VR R l l'→VR R (.bad::l) (v::l')
 | b {l:List CV} {l':List Value} (x:Bool):VR R l l'→VR R (.b x::l) (.bool x::l')
 | i {l:List CV} {l':List Value} (k:IntKind) (n:Int):VR R l l'→VR R (.i k n::l) (.int k n::l')
 | s {l:List CV} {l':List Value} (x:List UInt8):VR R l l'→VR R (.s x::l) (.string ⟨x.toArray⟩::l')
 | pn {l:List CV} {l':List Value}:VR R l l'→VR R (.pn::l) (.pointer none::l')
 | p {l:List CV} {l':List Value} {k off b c:Nat}:R k=some (b,c)→VR R l l'→VR R (.p k off::l) (.pointer (some ⟨b,off,none⟩)::l')
 | sn {l:List CV} {l':List Value}:VR R l l'→VR R (.sn::l) (.slice none 0 0::l')
 | slK {l:List CV} {l':List Value} {k off ln cp b c:Nat}:R k=some (b,c)→VR R l l'→VR R (.sl k off ln true cp::l) (.slice (some ⟨b,off,none⟩) ln cp::l')
 | slU {l:List CV} {l':List Value} {k off ln a b c:Nat}:R k=some (b,c)→VR R l l'→VR R (.sl k off ln false a::l) (.slice (some ⟨b,off,none⟩) ln (c-a)::l')
 | mn {l:List CV} {l':List Value}:VR R l l'→VR R (.mn::l) (.map none::l')
 | m {l:List CV} {l':List Value} {k b c:Nat}:R k=some (b,c)→VR R l l'→VR R (.m k::l) (.map (some b)::l')
 | cn {l:List CV} {l':List Value}:VR R l l'→VR R (.cn::l) (.chan none::l')
 | c {l:List CV} {l':List Value} {k b c:Nat}:R k=some (b,c)→VR R l l'→VR R (.c k::l) (.chan (some b)::l')
 | fn {l:List CV} {l':List Value}:VR R l l'→VR R (.fn::l) (.nilFunc::l')
 | f {l xs ys:List CV} {l' xs' ys':List Value} (g:Nat):VR R xs xs'→VR R ys ys'→VR R l l'→VR R (.f g xs ys::l) (.func (.func g) xs'.toArray ys'.toArray::l')
 | y {l:List CV} {l':List Value} {k b c:Nat}:R k=some (b,c)→VR R l l'→VR R (.y k::l) (.func (.yield b) #[] #[]::l')
 | n {l:List CV} {l':List Value}:VR R l l'→VR R (.n::l) (.nilIface::l')
 | a {l:List CV} {l':List Value} {v:CV} {v':Value} (t:Nat):VR R [v] [v']→VR R l l'→VR R (.a t v::l) (.iface t v'::l')
 | g {l xs:List CV} {l' xs':List Value}:VR R xs xs'→VR R l l'→VR R (.g xs::l) (.agg xs'.toArray::l')
 | t {l xs:List CV} {l' xs':List Value}:VR R xs xs'→VR R l l'→VR R (.t xs::l) (.tuple xs'.toArray::l')
abbrev V1(R:XR)(v:CV)(v':Value):Prop:=VR R [v] [v']
theorem VR.cons_iff{R:XR}{v:CV}{v':Value}{l:List CV}{l':List Value}:VR R (v::l) (v'::l')↔V1 R v v'∧VR R l l':=by
 constructor
 ·intro h
  cases h with
  | bad _ h=>exact⟨.bad _ .nil,h⟩
  | b _ h=>exact⟨.b _ .nil,h⟩
  | i _ _ h=>exact⟨.i _ _ .nil,h⟩
  | s _ h=>exact⟨.s _ .nil,h⟩
  | pn h=>exact⟨.pn .nil,h⟩
  | p h1 h=>exact⟨.p h1 .nil,h⟩
  | sn h=>exact⟨.sn .nil,h⟩
  | slK h1 h=>exact⟨.slK h1 .nil,h⟩
  | slU h1 h=>exact⟨.slU h1 .nil,h⟩
  | mn h=>exact⟨.mn .nil,h⟩
  | m h1 h=>exact⟨.m h1 .nil,h⟩
  | cn h=>exact⟨.cn .nil,h⟩
  | c h1 h=>exact⟨.c h1 .nil,h⟩
  | fn h=>exact⟨.fn .nil,h⟩
  | f g h1 h2 h=>exact⟨.f g h1 h2 .nil,h⟩
  | y h1 h=>exact⟨.y h1 .nil,h⟩
  | n h=>exact⟨.n .nil,h⟩
  | a t h1 h=>exact⟨.a t h1 .nil,h⟩
  | g h1 h=>exact⟨.g h1 .nil,h⟩
  | t h1 h=>exact⟨.t h1 .nil,h⟩
 ·rintro⟨h,h'⟩
  cases h with
  | bad _ _=>exact .bad _ h'
  | b _ _=>exact .b _ h'
  | i _ _ _=>exact .i _ _ h'
  | s _ _=>exact .s _ h'
  | pn _=>exact .pn h'
  | p h1 _=>exact .p h1 h'
  | sn _=>exact .sn h'
  | slK h1 _=>exact .slK h1 h'
  | slU h1 _=>exact .slU h1 h'
  | mn _=>exact .mn h'
  | m h1 _=>exact .m h1 h'
  | cn _=>exact .cn h'
  | c h1 _=>exact .c h1 h'
  | fn _=>exact .fn h'
  | f g h1 h2 _=>exact .f g h1 h2 h'
  | y h1 _=>exact .y h1 h'
  | n _=>exact .n h'
  | a t h1 _=>exact .a t h1 h'
  | g h1 _=>exact .g h1 h'
  | t h1 _=>exact .t h1 h'
theorem VR.len{R:XR}:∀{l:List CV} {l':List Value},VR R l l'→l.length=l'.length
 | [],[],_=>rfl
 | v::l,v'::l',h=>by rw[lZ3,lZ3,(VR.cons_iff.1 h).2.len]
 | [],_::_,h=>by cases h
 | _::_,[],h=>by cases h
theorem VR.mono{R R':XR}(hR:XR.le R R'){l:List CV}{l':List Value}(h:VR R l l'):VR R' l l':=by
 induction h with
 | nil=>exact .nil
 | bad _ _ ih=>exact .bad _ ih
 | b _ _ ih=>exact .b _ ih
 | i _ _ _ ih=>exact .i _ _ ih
 | s _ _ ih=>exact .s _ ih
 | pn _ ih=>exact .pn ih
 | p h _ ih=>exact .p (hR _ _ h) ih
 | sn _ ih=>exact .sn ih
 | slK h _ ih=>exact .slK (hR _ _ h) ih
 | slU h _ ih=>exact .slU (hR _ _ h) ih
 | mn _ ih=>exact .mn ih
 | m h _ ih=>exact .m (hR _ _ h) ih
 | cn _ ih=>exact .cn ih
 | c h _ ih=>exact .c (hR _ _ h) ih
 | fn _ ih=>exact .fn ih
 | f g _ _ _ i1 i2 ih=>exact .f g i1 i2 ih
 | y h _ ih=>exact .y (hR _ _ h) ih
 | n _ ih=>exact .n ih
 | a t _ _ i1 ih=>exact .a t i1 ih
 | g _ _ i1 ih=>exact .g i1 ih
 | t _ _ i1 ih=>exact .t i1 ih
theorem VR.app{R:XR}:∀{l k:List CV} {l' k':List Value},VR R l l'→VR R k k'→VR R (l++k) (l'++k')
 | [],_,[],_,_,h=>h
 | v::l,_,v'::l',_,h,h'=>VR.cons_iff.2 ⟨(VR.cons_iff.1 h).1,(VR.cons_iff.1 h).2.app h'⟩
 | [],_,_::_,_,h,_=>by cases h
 | _::_,_,[],_,h,_=>by cases h
theorem VR.drop{R:XR}:∀(d:Nat) {l:List CV} {l':List Value},VR R l l'→VR R (l.drop d) (l'.drop d)
 | 0,_,_,h=>h
 | d+1,[],[],_=>.nil
 | d+1,v::l,v'::l',h=>(VR.cons_iff.1 h).2.drop d
 | _+1,[],_::_,h=>by cases h
 | _+1,_::_,[],h=>by cases h
theorem VR.take{R:XR}:∀(d:Nat) {l:List CV} {l':List Value},VR R l l'→VR R (l.take d) (l'.take d)
 | 0,_,_,h=>.nil
 | d+1,[],[],_=>.nil
 | d+1,v::l,v'::l',h=>VR.cons_iff.2 ⟨(VR.cons_iff.1 h).1,(VR.cons_iff.1 h).2.take d⟩
 | _+1,[],_::_,h=>by cases h
 | _+1,_::_,[],h=>by cases h
theorem VR.at{R:XR}:∀{d:Nat} {l:List CV} {l':List Value} {v:CV},VR R l l'→l[d]?=some v→∃v',l'[d]?=some v'∧V1 R v v'
 | 0,v::l,v'::l',_,h,e=>by cases e;exact⟨v',rfl,(VR.cons_iff.1 h).1⟩
 | d+1,v::l,v'::l',_,h,e=>by
  rw[Adm]at e
  obtain⟨w,h1,h2⟩:=(VR.cons_iff.1 h).2.at e
  exact⟨w,by rw[Adm];exact h1,h2⟩
 | _,[],_,_,_,e=>by cases e
 | _,_::_,[],_,h,_=>by cases h
/-- A constant's value stands for it. -/
theorem Bar(R:XR)(v:Value):V1 R (xOf0 v) v:=by
 unfold xOf0
 split
 ·exact .b _ .nil
 ·exact .i _ _ .nil
 ·rename_i x
  have:x=⟨x.data.toList.toArray⟩:=by simp
  exact this ▸ VR.s _ .nil
 ·exact .pn .nil
 ·exact .sn .nil
 ·exact .mn .nil
 ·exact .cn .nil
 ·exact .fn .nil
 ·exact .n .nil
 ·rename_i g xs ys
  split
  ·rename_i h1 h2
   have a:xs=([]:List Value).toArray:=by rw[←h1]
   have c:ys=([]:List Value).toArray:=by rw[←h2]
   rw[a,c]
   exact .f g .nil .nil .nil
  ·exact .bad _ .nil
 ·exact .bad _ .nil
theorem Bog(R:XR)(v:Value):V1 R (xOf1 v) v:=by
 unfold xOf1
 split
 ·exact .a _ (Bar R _) .nil
 ·exact Bar R v
theorem Bjb(R:XR):∀(l:List Value),VR R (l.map xOf1) l
 | []=>.nil
 | v::l=>VR.cons_iff.2 ⟨Bog R v,Bjb R l⟩
theorem vOf(R:XR)(v:Value):V1 R (xOfV v) v:=by
 unfold xOfV
 split
 ·rename_i l
  have:=VR.g (Bjb R l.toList) (VR.nil (R:=R))
  rwa[Ajm]at this
 ·rename_i l
  have:=VR.t (Bjb R l.toList) (VR.nil (R:=R))
  rwa[Ajm]at this
 ·exact Bog R v
theorem V1.cells{R:XR}{v:CV}{v':Value}{l:List CV}(h:V1 R v v')(hl:v.cells=some l):VR R l v'.cells.toList:=by
 cases h with
 | bad=>cases hl
 | g h1 _=>cases hl;simpa[Value.cells]using h1
 | b=>cases hl;exact .b _ .nil
 | i=>cases hl;exact .i _ _ .nil
 | s=>cases hl;exact .s _ .nil
 | pn=>cases hl;exact .pn .nil
 | p h1=>cases hl;exact .p h1 .nil
 | sn=>cases hl;exact .sn .nil
 | slK h1=>cases hl;exact .slK h1 .nil
 | slU h1=>cases hl;exact .slU h1 .nil
 | mn=>cases hl;exact .mn .nil
 | m h1=>cases hl;exact .m h1 .nil
 | cn=>cases hl;exact .cn .nil
 | c h1=>cases hl;exact .c h1 .nil
 | fn=>cases hl;exact .fn .nil
 | f g h1 h2=>cases hl;exact .f g h1 h2 .nil
 | y h1=>cases hl;exact .y h1 .nil
 | n=>cases hl;exact .n .nil
 | a t h1=>cases hl;exact .a t h1 .nil
 | t h1=>cases hl;exact .t h1 .nil
theorem Ayu{a:CV}{l:List CV}(h:xAllC (a::l)=true):a.isCell=true∧xAllC l=true:=by
 have h':(match a.isCell with|true=>xAllC l|false=>false)=true:=h
 cases ha:a.isCell with
 | true=>rw[ha]at h';exact⟨rfl,h'⟩
 | false=>rw[ha]at h';cases h'
theorem V1.single{R:XR}{v:CV}{v':Value}(h:V1 R v v')(hc:v.isCell=true):single v'=true:=by
 cases h<;>first|rfl|(simp[CV.isCell]at hc)
theorem VR.singles{R:XR}:∀{l:List CV} {l':List Value},VR R l l'→xAllC l=true→∀x∈l',single x=true
 | [],[],_,_,x,hx=>by cases hx
 | v::l,v'::l',h,hc,x,hx=>by
  obtain⟨h1,h2⟩:=VR.cons_iff.1 h
  obtain⟨a,b⟩:=Ayu hc
  rcases Gw.1 hx with rfl|hx
  ·exact h1.single a
  ·exact h2.singles b x hx
 | [],_::_,h,_,_,_=>by cases h
 | _::_,[],h,_,_,_=>by cases h
end
section
open Go
def EnvR(R:XR)(e:Tr CV)(e':Env):Prop:=∀t v,e.get t=some v→V1 R v (e' t)
theorem EnvR.mono{R R':XR}{e:Tr CV}{e':Env}(h:EnvR R e e')(hR:XR.le R R'):EnvR R' e e':=fun t v ht=>(h t v ht).mono hR
theorem EnvR.set{R:XR}{e:Tr CV}{e':Env}(h:EnvR R e e'){d:Nat}{v:CV}{v':Value}(hv:V1 R v v'):EnvR R (e.set d v) (upd e' d v'):=fun t w ht=>by
 rw[Tr.get_set]at ht
 unfold upd
 by_cases hd:t=d
 ·rw[if_pos hd]at ht ⊢;cases ht;exact hv
 ·rw[if_neg hd]at ht ⊢;exact h t w ht
def stB:Nat→LoopState
 | 0=>.ready
 | 1=>.busy
 | 2=>.done
 | _=>.exhausted
def Bbb(n:Nat)(fz:Nat×Nat):Prop:=∀i,i<n→(fz.1≤i&&i<fz.2)=false
/-- What is held,and what it stands for. -/
inductive ObjR(R:XR)(c:Nat):CO→Res→Prop
 | cells {l:List CV} {l':List Value} {t:TypeId} {fz:Nat×Nat}:VR R l l'→Bbb l'.length fz→ObjR R c (.cells l) (.obj (.cells l'.toArray t fz))
 | grow {n:Nat} {l:List CV} {l' rest:List Value} {t:TypeId} {fz:Nat×Nat}:VR R l l'→l'.length+rest.length=c*n→0<n→Bbb (l'.length+rest.length) fz→ObjR R c (.grow n l) (.obj (.cells (l'++rest).toArray t fz))
 | map {es:List (CV×CV)} {en:List MapEntry} {ck:Nat}:VR R (es.map Prod.fst) (en.map MapEntry.key)→VR R (es.map Prod.snd) (en.map MapEntry.val)→ObjR R c (.map es) (.obj (.map en.toArray ck))
 | loop {busy n:Nat} {pd:Option Code} {env:Tr CV} {ps:List Tmp} {as_ body:Code} {dk b c':Nat} {L:Loop} {e':Env}:L.state=stB busy→L.pending=pd→EnvOf n L.tmps e'→EnvR R env e'→L.params=ps.toArray→L.assign=as_→L.body=body →
   R dk=some (b,c')→L.defers=b→ObjR R c (.loop busy pd n env ps as_ body dk) (.obj (.loop L))
 | defd:ObjR R c .defd (.obj (.deferred (some [])))
 | chan:ObjR R c .chan .chan
 | rcv {vs:List CV} {vs':List Value}:VR R vs vs'→ObjR R c (.rcv vs) (.recv vs')
theorem ObjR.mono{R R':XR}{c:Nat}{o:CO}{r:Res}(h:ObjR R c o r)(hR:XR.le R R'):ObjR R' c o r:=by
 cases h with
 | cells h1 h2=>exact .cells (h1.mono hR) h2
 | grow h1 h2 h3 h4=>exact .grow (h1.mono hR) h2 h3 h4
 | map h1 h2=>exact .map (h1.mono hR) (h2.mono hR)
 | loop h1 h2 h3 h4 h5 h6 h7 h8 h9=>exact .loop h1 h2 h3 (h4.mono hR) h5 h6 h7 (hR _ _ h8) h9
 | defd=>exact .defd
 | chan=>exact .chan
 | rcv h=>exact .rcv (h.mono hR)
/-- The same,whatever of it is frozen. -/
def Btj:Obj→Nat×Nat→Obj
 | .cells c t _,f=>.cells c t f
 | o,_=>o
def ObjO(R:XR)(c:Nat)(o:CO)(x:Obj):Prop:=∃f,ObjR R c o (.obj (Btj x f))
theorem ObjO.mono{R R':XR}{c:Nat}{o:CO}{x:Obj}(h:ObjO R c o x)(hR:XR.le R R'):ObjO R' c o x:=let ⟨f,h⟩:=h;⟨f,h.mono hR⟩
theorem ObjO.of{R:XR}{c:Nat}{o:CO}{x:Obj}(h:ObjR R c o (.obj x)):ObjO R c o x:=by
 cases x with
 | cells cs t f=>exact⟨f,h⟩
 | _=>exact⟨(0,0),h⟩
/-- What is held beside σ₀ is just what the memory says;some blocks are forgotten. -/
structure MemR(R:XR)(m:Mem)(ρ:Ro)(σ σ₀:Own)(L:List (Nat×Nat×Res))(G:Own):Prop where
 perm:σ.Perm (L.map Prod.snd++(G++σ₀))
 nd:(L.map Prod.fst).Nodup
 own:∀p∈L,∃c o,R p.1=some (p.2.1,c)∧m.M.get p.1=some (.own o)∧ObjR R c o p.2.2
 all:∀k o,m.M.get k=some (.own o)→o ≠ .dead→∃q,(k,q)∈L
 ro:∀k o,m.M.get k=some (.ro o)→∃b c x,R k=some (b,c)∧ρ b=some x∧ObjO R c o x
 gar:∀p∈G,∃o,p.2=Res.obj o
 lt:∀k q,R k=some q→k<m.nx
 glob:∀k,k<16→R k=some (k,0)
def MemX(R:XR)(m:Mem)(ρ:Ro)(σ σ₀:Own):Prop:=∃L G,MemR R m ρ σ σ₀ L G
section
variable{R:XR}{m:Mem}{ρ:Ro}{σ σ₀:Own}{L:List (Nat×Nat×Res)}{G:Own}
theorem Bmb{σ τ:Own}{x:Nat×Res}(h:σ.Perm τ)(hx:x∈τ):∃i:Nat,σ[i]?=some x:=Bcn (h.mem_iff.2 hx)
theorem Akr{x x':Nat×Res}:∀{i:Nat} {σ τ:Own},σ.Perm (x::τ)→σ[i]?=some x→(σ.set i x').Perm (x'::τ):=fun {i σ τ} h hi=>by
 have hlt:i<σ.length:=by
  rcases Rd i σ.length with h'|h'
  ·exact h'
  ·rw[Vy h']at hi;cases hi
 have b:(σ.set i x').Perm (x'::σ.eraseIdx i):=by
  clear h hi
  induction σ generalizing i with
  | nil=>cases hlt
  | cons a σ ih =>
   cases i with
   | zero=>exact .refl _
   | succ i=>exact((ih (by simpa using hlt)).cons a).trans (.swap ..)
 have c:σ.Perm (x::σ.eraseIdx i):=by
  clear h b
  induction σ generalizing i with
  | nil=>cases hlt
  | cons a σ ih =>
   cases i with
   | zero=>cases hi;exact .refl _
   | succ i =>
    rw[Adm]at hi
    exact((ih hi (by simpa using hlt)).cons a).trans (.swap ..)
 exact b.trans (.cons _ (c.symm.trans h).cons_inv)
theorem Tg{L:List (Nat×Nat×Res)}{p:Nat×Nat×Res}(h:p∈L):∃A B,L=A++p::B:=List.append_of_mem h
/-- What is owned under a number. -/
theorem MemR.at(h:MemR R m ρ σ σ₀ L G){k:Nat}{o:CO}(hk:m.M.get k=some (.own o))(hd:o ≠ .dead) :
  ∃(b c:Nat) (r:Res) (i:Nat),R k=some (b,c)∧σ[i]?=some (b,r)∧ObjR R c o r∧(k,b,r)∈L:=by
 obtain⟨⟨b,r⟩,hq⟩:=h.all k o hk hd
 obtain⟨c,o',d,a,e⟩:=h.own _ hq
 simp only at d a e
 rw[hk]at a;cases a
 obtain⟨i,hi⟩:=Bmb h.perm (Sf _ (Yn (f:=Prod.snd) hq))
 exact⟨b,c,r,i,d,hi,e,hq⟩
theorem Nv(m:Mem)(k:Nat)(o:CO)(j:Nat):(m.put k o).M.get j=if j=k then some (.own o) else m.M.get j:=Tr.get_set ..
theorem Rx(m:Mem)(o:CO)(j:Nat):(m.add o).M.get j=if j=m.nx then some (.own o) else m.M.get j:=Tr.get_set ..
/-- It is given another content. -/
theorem MemR.put(h:MemR R m ρ σ σ₀ L G){k b c i:Nat}{r r':Res}{o':CO}(hL:(k,b,r)∈L)(hR:R k=some (b,c))(hi:σ[i]?=some (b,r))(ho:ObjR R c o' r'):MemX R (m.put k o') ρ (σ.set i (b,r')) σ₀:=by
 obtain⟨A,B,rfl⟩:=Tg hL
 have nd:=h.nd
 simp only[Ny,Oa]at nd
 have hAB:∀p∈A++B,p.1≠k:=fun p hp e=>by
  rw[Amq]at nd
  obtain⟨u,n,t⟩:=nd
  rcases Hs.1 hp with hp|hp
  ·exact t p.1 (Yn (f:=Prod.fst) hp) k mC e
  ·exact(Adn.1 n).1 (e ▸ Yn (f:=Prod.fst) hp)
 have mid:∀{x:Nat×Nat×Res} {p},p∈A++x::B→p=x∨p∈A++B:=fun {x p} hp=>by
  rcases Hs.1 hp with hp|hp
  ·exact .inr (Sf _ hp)
  ·rcases Gw.1 hp with hp|hp
   ·exact .inl hp
   ·exact .inr (Po _ hp)
 have dim:∀{x:Nat×Nat×Res} {p},p∈A++B→p∈A++x::B:=fun {x p} hp=>(Hs.1 hp).elim (Sf _) fun hp=>Po _ (lZ5 _ hp)
 refine⟨A++(k,b,r')::B,G,?_,by simpa using h.nd,fun p hp=>?_,fun j o hj hd=>?_,fun j o hj=>?_,h.gar,h.lt,h.glob⟩
 ·have p0:=h.perm
  simp only[Ny,Oa,lZ9,Ts]at p0 ⊢
  exact(Akr (p0.trans Axk) hi).trans List.perm_middle.symm
 ·rcases mid hp with rfl|hp
  ·exact⟨c,o',hR,by rw[Nv,if_pos rfl],ho⟩
  ·obtain⟨a,o1,d,g,l⟩:=h.own p (dim hp)
   exact⟨a,o1,d,by rw[Nv,if_neg (hAB p hp)];exact g,l⟩
 ·rw[Nv]at hj
  by_cases hjk:j=k
  ·subst hjk;exact⟨_,Po _ mC⟩
  ·rw[if_neg hjk]at hj
   obtain⟨q,hq⟩:=h.all j o hj hd
   rcases mid hq with e|hq
   ·exact absurd (Prod.mk.inj e).1 hjk
   ·exact⟨q,dim hq⟩
 ·rw[Nv]at hj
  by_cases hjk:j=k
  ·rw[if_pos hjk]at hj;cases hj
  ·rw[if_neg hjk]at hj;exact h.ro j o hj
/-- It is forgotten. -/
theorem MemR.kill(h:MemR R m ρ σ σ₀ L G){k b:Nat}{o:Obj}(hL:(k,b,Res.obj o)∈L):MemX R (m.put k .dead) ρ σ σ₀:=by
 obtain⟨A,B,rfl⟩:=Tg hL
 have nd:=h.nd
 simp only[Ny,Oa]at nd
 have hAB:∀p∈A++B,p.1≠k:=fun p hp e=>by
  rw[Amq]at nd
  obtain⟨n,i,l⟩:=nd
  rcases Hs.1 hp with hp|hp
  ·exact l p.1 (Yn (f:=Prod.fst) hp) k mC e
  ·exact(Adn.1 i).1 (e ▸ Yn (f:=Prod.fst) hp)
 have dim:∀{p},p∈A++B→p∈A++(k,b,Res.obj o)::B:=fun {p} hp=>(Hs.1 hp).elim (Sf _) fun hp=>Po _ (lZ5 _ hp)
 refine⟨A++B,(b,.obj o)::G,?_,?_,fun p hp=>?_,fun j oj hj hd=>?_,fun j oj hj=>?_,fun p hp=>?_,h.lt,h.glob⟩
 ·have p0:=h.perm
  simp only[Ny,Oa,lZ9,Ts]at p0 ⊢
  refine p0.trans (List.Perm.append_left _ ?_)
  exact List.perm_middle.symm
 ·rw[Ny]
  have:(A.map Prod.fst++B.map Prod.fst).Sublist (A.map Prod.fst++k::B.map Prod.fst):=List.Sublist.append_left (Bhb ..) _
  exact this.nodup nd
 ·obtain⟨a,o1,c,d,g⟩:=h.own p (dim hp)
  exact⟨a,o1,c,by rw[Nv,if_neg (hAB p hp)];exact d,g⟩
 ·rw[Nv]at hj
  by_cases hjk:j=k
  ·rw[if_pos hjk]at hj;cases hj;exact absurd rfl hd
  ·rw[if_neg hjk]at hj
   obtain⟨q,hq⟩:=h.all j oj hj hd
   rcases Hs.1 hq with hq|hq
   ·exact⟨q,Sf _ hq⟩
   ·rcases Gw.1 hq with e|hq
    ·exact absurd (Prod.mk.inj e).1 hjk
    ·exact⟨q,Po _ hq⟩
 ·rw[Nv]at hj
  by_cases hjk:j=k
  ·rw[if_pos hjk]at hj;cases hj
  ·rw[if_neg hjk]at hj;exact h.ro j oj hj
 ·rcases Gw.1 hp with rfl|hp
  ·exact⟨o,rfl⟩
  ·exact h.gar p hp
def XR.add(R:XR)(k:Nat)(q:Nat×Nat):XR:=fun j=>if j=k then some q else R j
theorem XR.add_same{R:XR}{k:Nat}{q:Nat×Nat}:R.add k q k=some q:=if_pos rfl
theorem MemR.fresh(h:MemR R m ρ σ σ₀ L G)(q:Nat×Nat):XR.le R (R.add m.nx q):=fun j q' hj=>by
 unfold XR.add
 rw[if_neg (Any (h.lt j q' hj))];exact hj
/-- A new block. -/
theorem MemR.add(h:MemR R m ρ σ σ₀ L G){b c:Nat}{r:Res}{o:CO}(ho:ObjR (R.add m.nx (b,c)) c o r):MemX (R.add m.nx (b,c)) (m.add o) ρ ((b,r)::σ) σ₀:=by
 have hle:=h.fresh (b,c)
 have hlt:∀p∈L,p.1<m.nx:=fun p hp=>by
  obtain⟨d,o1,a,_⟩:=h.own p hp
  exact h.lt _ _ a
 refine⟨(m.nx,b,r)::L,G,h.perm.cons _,Adn.2 ⟨fun hm=>?_,h.nd⟩,fun p hp=>?_,fun j oj hj hd=>?_,fun j oj hj=>?_,h.gar,fun j q hj=>?_,fun j hj=>hle _ _ (h.glob j hj)⟩
 ·obtain⟨p,hp,e⟩:=Ow.1 hm
  exact absurd (hlt p hp) (by omega)
 ·rcases Gw.1 hp with rfl|hp
  ·exact⟨c,o,XR.add_same,by rw[Rx,if_pos rfl],ho⟩
  ·obtain⟨d,o1,a,f,g⟩:=h.own p hp
   exact⟨d,o1,hle _ _ a,by rw[Rx,if_neg (Any (hlt p hp))];exact f,g.mono hle⟩
 ·rw[Rx]at hj
  by_cases hjk:j=m.nx
  ·subst hjk;exact⟨_,Afa ..⟩
  ·rw[if_neg hjk]at hj
   obtain⟨q,hq⟩:=h.all j oj hj hd
   exact⟨q,lZ5 _ hq⟩
 ·rw[Rx]at hj
  by_cases hjk:j=m.nx
  ·rw[if_pos hjk]at hj;cases hj
  ·rw[if_neg hjk]at hj
   obtain⟨i,d,k,a,f,g⟩:=h.ro j oj hj
   exact⟨i,d,k,hle _ _ a,f,g.mono hle⟩
 ·unfold XR.add at hj
  by_cases hjk:j=m.nx
  ·subst hjk;exact Azx _
  ·rw[if_neg hjk]at hj;exact Bgt (h.lt j q hj)
/-- It goes on under another number. -/
theorem MemR.move(h:MemR R m ρ σ σ₀ L G){k b c i:Nat}{r r':Res}{o':CO}(hL:(k,b,r)∈L)(hi:σ[i]?=some (b,r))(ho:ObjR (R.add m.nx (b,c)) c o' r') :
  MemX (R.add m.nx (b,c)) ((m.put k .dead).add o') ρ (σ.set i (b,r')) σ₀:=by
 have hle:=h.fresh (b,c)
 obtain⟨A,B,rfl⟩:=Tg hL
 have nd:=h.nd
 simp only[Ny,Oa]at nd
 have hAB:∀p∈A++B,p.1≠k:=fun p hp e=>by
  rw[Amq]at nd
  obtain⟨w,t,u⟩:=nd
  rcases Hs.1 hp with hp|hp
  ·exact u p.1 (Yn (f:=Prod.fst) hp) k mC e
  ·exact(Adn.1 t).1 (e ▸ Yn (f:=Prod.fst) hp)
 have dim:∀{p},p∈A++B→p∈A++(k,b,r)::B:=fun {p} hp=>(Hs.1 hp).elim (Sf _) fun hp=>Po _ (lZ5 _ hp)
 have hlt:∀p∈A++(k,b,r)::B,p.1<m.nx:=fun p hp=>by
  obtain⟨d,o1,a,_⟩:=h.own p hp
  exact h.lt _ _ a
 have hk:k<m.nx:=hlt (k,b,r) hL
 have get:∀j,((m.put k .dead).add o').M.get j=if j=m.nx then some (.own o') else if j=k then some (.own .dead) else m.M.get j:=fun j=>by
  rw[Rx,Nv];rfl
 refine⟨(m.nx,b,r')::(A++B),G,?_,Adn.2 ⟨fun hm=>?_,?_⟩,fun p hp=>?_,fun j oj hj hd=>?_,fun j oj hj=>?_,h.gar,fun j q hj=>?_,fun j hj=>hle _ _ (h.glob j hj)⟩
 ·have p0:=h.perm
  simp only[Ny,Oa,lZ9,Ts]at p0 ⊢
  exact Akr (p0.trans Axk) hi
 ·obtain⟨p,hp,e⟩:=Ow.1 hm
  exact absurd (hlt p (dim hp)) (by omega)
 ·rw[Ny]
  have:(A.map Prod.fst++B.map Prod.fst).Sublist (A.map Prod.fst++k::B.map Prod.fst):=List.Sublist.append_left (Bhb ..) _
  exact this.nodup nd
 ·rcases Gw.1 hp with rfl|hp
  ·exact⟨c,o',XR.add_same,by rw[get,if_pos rfl],ho⟩
  ·obtain⟨d,o1,a,g,l⟩:=h.own p (dim hp)
   exact⟨d,o1,hle _ _ a,by rw[get,if_neg (Any (hlt p (dim hp))),if_neg (hAB p hp)];exact g,l.mono hle⟩
 ·rw[get]at hj
  by_cases hjk:j=m.nx
  ·subst hjk;exact⟨_,Afa ..⟩
  ·rw[if_neg hjk]at hj
   by_cases hj2:j=k
   ·rw[if_pos hj2]at hj;cases hj;exact absurd rfl hd
   ·rw[if_neg hj2]at hj
    obtain⟨q,hq⟩:=h.all j oj hj hd
    rcases Hs.1 hq with hq|hq
    ·exact⟨q,lZ5 _ (Sf _ hq)⟩
    ·rcases Gw.1 hq with e|hq
     ·exact absurd (Prod.mk.inj e).1 hj2
     ·exact⟨q,lZ5 _ (Po _ hq)⟩
 ·rw[get]at hj
  by_cases hjk:j=m.nx
  ·rw[if_pos hjk]at hj;cases hj
  ·rw[if_neg hjk]at hj
   by_cases hj2:j=k
   ·rw[if_pos hj2]at hj;cases hj
   ·rw[if_neg hj2]at hj
    obtain⟨n,d,v,a,g,l⟩:=h.ro j oj hj
    exact⟨n,d,v,hle _ _ a,g,l.mono hle⟩
 ·unfold XR.add at hj
  by_cases hjk:j=m.nx
  ·subst hjk;exact Azx _
  ·rw[if_neg hjk]at hj;exact Bgt (h.lt j q hj)
/-- A row that may be read. -/
theorem MemR.row(h:MemR R m ρ σ σ₀ L G){k:Nat}{l:List CV}(hk:m.row k=some l) :
  ∃b c l' rest t fz,R k=some (b,c)∧Has ρ σ b (.cells (l'++rest).toArray t fz)∧VR R l l':=by
 have key:∀{o:CO} {c:Nat} {r:Res},xRowO o=some l→ObjR R c o r→∃l' rest t fz,r = .obj (.cells (l'++rest).toArray t fz)∧VR R l l'∧Bbb (l'.length+rest.length) fz:=by
  intro o c r ho hr
  cases hr with
  | @cells _ l' t fz a d=>cases ho;exact⟨l',[],t,fz,by simp,a,by simpa using d⟩
  | grow a d g n=>cases ho;exact⟨_,_,_,_,rfl,a,n⟩
  | map=>cases ho
  | loop=>cases ho
  | defd=>cases ho
  | chan=>cases ho
  | rcv=>cases ho
 unfold Mem.row at hk
 cases hg:m.M.get k with
 | none=>rw[hg]at hk;cases hk
 | some x =>
  rw[hg]at hk
  cases x with
  | own o =>
   have hd:o ≠ .dead:=fun e=>by subst e;cases hk
   obtain⟨b,c,r,i,a,d,g,n⟩:=h.at hg hd
   obtain⟨l',rest,t,fz,rfl,j,p⟩:=key hk g
   exact⟨b,c,l',rest,t,fz,a,.inr (Hd d),j⟩
  | ro o =>
   obtain⟨b,c,x,a,d,f,g⟩:=h.ro k o hg
   obtain⟨l',rest,t,fz,e,j,p⟩:=key hk g
   cases x with
   | cells cs t' f' =>
    have e':Res.obj (.cells cs t' f) = .obj (.cells (l'++rest).toArray t fz):=e
    cases e'
    exact⟨b,c,l',rest,_,_,a,.inl d,j⟩
   | _=>cases e
end
end
section
open Go
def Acs(R:XR):Prop:=∀k,k<16→R k=some (k,0)
theorem MemX.globR{R:XR}{m:Mem}{ρ:Ro}{σ σ₀:Own}(h:MemX R m ρ σ σ₀):Acs R:=let ⟨_,_,h⟩:=h;h.glob
theorem Em{R:XR}{e:Tr CV}{e':Env}(h:EnvR R e e')(hg:Acs R)(x:Operand):V1 R ((rdK x).run e) (Af e' x):=by
 cases x with
 | tmp t =>
  show V1 R (match e.get t with|some v=>v|none=>.bad) (e' t)
  cases ht:e.get t with
  | some v=>exact h t v ht
  | none=>exact .bad _ .nil
 | const v=>exact vOf R v
 | global g =>
  have a:(rdK (.global g)).run e=match Nat.ble (Nat.succ g) 16 with|true=>.p g 0|false=>.bad:=by
   simp only[rdK];cases Nat.ble (Nat.succ g) 16<;>rfl
  rw[a]
  split
  ·rename_i hb;exact .p (hg g (Pj hb)) .nil
  ·exact .bad _ .nil
 | func f=>exact .f f .nil .nil .nil
theorem Adv{R:XR}{e:Tr CV}{e':Env}(h:EnvR R e e')(hg:Acs R):∀(l:List Operand),VR R ((rdsK l).run e) (l.map (Af e'))
 | []=>.nil
 | x::l=>VR.cons_iff.2 ⟨Em h hg x,Adv h hg l⟩
/-- What an operation may come to. -/
def NxV(nx:Next)(v:Value):Prop:=nx = .value v∨(nx = .skip∧v=undef)
/-- What was there before,but for what is listed. -/
structure LogOk(m m':Mem):Prop where
 nx:m.nx≤m'.nx
 ex:∃w,m'.log=w++m.log∧m'.ln=m.ln+w.length∧∀k,k<m.nx→k∉w→m'.M.get k=m.M.get k
 outs:m'.outs=m.outs
theorem LogOk.refl(m:Mem):LogOk m m:=⟨Jd _,⟨[],rfl,rfl,fun _ _ _=>rfl⟩,rfl⟩
theorem LogOk.put(m:Mem)(k:Nat)(o:CO):LogOk m (m.put k o):=⟨Jd _,⟨[k],rfl,rfl,fun j _ hn=>by
 rw[Nv,if_neg (fun e=>hn (by rw[e];exact Afa ..))]⟩,rfl⟩
theorem LogOk.add(m:Mem)(o:CO):LogOk m (m.add o):=⟨Nat.le_succ _,⟨[],rfl,rfl,fun j hj _=>by rw[Rx,if_neg (Any hj)]⟩,rfl⟩
theorem LogOk.trans{m m' m'':Mem}(h:LogOk m m')(h':LogOk m' m''):LogOk m m'':=by
 obtain⟨w,a,b,c⟩:=h.ex
 obtain⟨w',d,e,f⟩:=h'.ex
 refine⟨Sz h.nx h'.nx,⟨w'++w,by rw[d,a,lZ9],by rw[e,b,lZ2];omega,fun k hk hn=>?_⟩,h'.outs.trans h.outs⟩
 rw[f k (Abk hk h.nx) (fun hm=>hn (Sf _ hm)),c k hk (fun hm=>hn (Po _ hm))]
/-- A value,and nothing else happens. -/
def Amy(P:Program)(o:Op)(R:XR)(e':Env)(x:CV):Prop :=
 ∃v,V1 R x v∧∀ρ σ dd ty pos af g,wpS P ρ (execOp (Af e') ⟨dd,o,ty,pos,af,g⟩) σ (fun nx σ'=>nx = .value v∧σ'=σ)
/-- A value;memory changes. -/
def Bdz(P:Program)(o:Op)(R:XR)(e':Env)(m:Mem)(x:CV)(m':Mem):Prop :=
 LogOk m m'∧(xMild o=true→m'.nx≠m.nx)∧∀ρ σ σ₀ dd ty pos af g,MemX R m ρ σ σ₀→wpS P ρ (execOp (Af e') ⟨dd,o,ty,pos,af,g⟩) σ (fun nx σ'=>∃R' v,XR.le R R'∧NxV nx v∧V1 R' x v∧MemX R' m' ρ σ' σ₀)
theorem Wb{P:Program}{o:Op}{R:XR}{e':Env}{x:CV}{v:Value}(s:Sem Value)(hs:∀dd ty pos af g,execOp (Af e') ⟨dd,o,ty,pos,af,g⟩=s.bind fun v=>Sem.pure (Next.value v))(hv:V1 R x v)
  (h:∀ρ σ,wpS P ρ s σ (fun w σ'=>w=v∧σ'=σ)):Amy P o R e' x:=⟨v,hv,fun ρ σ dd ty pos af g=>by
 rw[hs,Ad]
 exact Eu (by rintro w σ' ⟨rfl,rfl⟩;exact⟨rfl,rfl⟩) _ _ (h ρ σ)⟩
theorem Asg{P:Program}{o:Op}{R:XR}{e':Env}{m:Mem}{x:CV}{co:CO}{c:Nat}{ob:Obj}(s:Sem Value)(mk:Nat→Value)(hs:∀dd ty pos af g,execOp (Af e') ⟨dd,o,ty,pos,af,g⟩=s.bind fun v=>Sem.pure (Next.value v))
  (h:∀ρ σ Q,(∀r,Q (mk r) ((r,.obj ob)::σ))→wpS P ρ s σ Q) (ho:∀R',XR.le R R'→ObjR R' c co (.obj ob)) (hx:∀R' r,R' m.nx=some (r,c)→V1 R' x (mk r)):Bdz P o R e' m x (m.add co):=by
 refine⟨.add m co,fun _=>Atz _,fun ρ σ σ₀ dd ty pos af g hm=>?_⟩
 obtain⟨L,G,hm⟩:=hm
 rw[hs,Ad]
 refine h ρ σ _ fun r=>?_
 exact⟨R.add m.nx (r,c),mk r,hm.fresh _,.inl rfl,hx _ r XR.add_same,hm.add (ho _ (hm.fresh _))⟩
section
variable{P:Program}{t:TypeId}
theorem Vl{n:Nat}(h:xSzT P t=some n):∃i,P.info? t=some i∧i.size=n:=by
 unfold xSzT at h
 cases hi:P.info? t with
 | none=>rw[hi]at h;cases h
 | some i=>rw[hi]at h;cases h;exact⟨i,rfl,rfl⟩
theorem Apx{b:Bool}(h:xAggT P t=some b):∃d,P.underlying t=some d∧Qv d=b:=by
 unfold xAggT at h
 cases hd:P.underlying t with
 | none=>rw[hd]at h;cases h
 | some d=>rw[hd]at h;cases h;exact⟨d,rfl,rfl⟩
theorem Uk{z:CV}(h:xZeroT P t=some z):∃v,Fw P t v∧z=xOfV v:=by
 unfold xZeroT at h
 cases hi:P.info? t with
 | none=>rw[hi]at h;cases h
 | some i =>
  rw[hi]at h
  simp only at h
  cases hz:i.zero with
  | none=>rw[hz]at h;cases h
  | some v=>rw[hz]at h;cases h;exact⟨v,⟨i,hi,hz⟩,rfl⟩
end
theorem Zd{k k':IntKind}(h:xKind k k'=true):k=k':=by cases k<;>cases k'<;>first|rfl|cases h
theorem Arq(a b:Int):xEqI a b=(a==b):=by
 cases a<;>cases b<;>simp only[xEqI]
 ·rename_i x y
  rw[Ajf];simp;omega
 ·rfl
 ·rfl
 ·rename_i x y
  rw[Ajf];simp
theorem Aad(a b:Int):xLtI a b=decide (a<b):=by
 cases a<;>cases b<;>simp only[xLtI]
 ·rename_i x y
  rw[Ajf];simp[Nat.ble_eq];omega
 ·rename_i x y
  symm;rw[decide_eq_false_iff_not];show ¬((x:Int)<_);omega
 ·rename_i x y
  symm;rw[decide_eq_true_iff];show _<(y:Int);omega
 ·rename_i x y
  rw[Ajf];simp[Nat.ble_eq];omega
theorem not_lt(a b:Int):(!decide (b<a))=decide (a≤b):=by
 rw[Ajf];simp
end
section
open Go
section
variable{P:Program}{R:XR}{e:Tr CV}{e':Env}{m m':Mem}{x:CV}
/-- A value that is known stands for this one. -/
theorem Ayk{v:Value}{b:Bool}(h:V1 R (.b b) v):v = .bool b:=by cases h;rfl
theorem Wk{v:Value}{k:IntKind}{n:Int}(h:V1 R (.i k n) v):v = .int k n:=by cases h;rfl
theorem Avl{v:Value}{l:List UInt8}(h:V1 R (.s l) v):v = .string ⟨l.toArray⟩:=by cases h;rfl
theorem Bds{v:Value}{k off:Nat}(h:V1 R (.p k off) v):∃b c,R k=some (b,c)∧v = .pointer (some ⟨b,off,none⟩):=by cases h with|p h1 _=>exact⟨_,_,h1,rfl⟩
theorem Amu{v:Value}{l:List CV}(h:V1 R (.g l) v):∃l',VR R l l'∧v = .agg l'.toArray:=by cases h with|g h1 _=>exact⟨_,h1,rfl⟩
theorem Bsv{v:Value}{l:List CV}(h:V1 R (.t l) v):∃l',VR R l l'∧v = .tuple l'.toArray:=by cases h with|t h1 _=>exact⟨_,h1,rfl⟩
theorem Bsu{v:Value}{k:Nat}(h:V1 R (.m k) v):∃b c,R k=some (b,c)∧v = .map (some b):=by cases h with|m h1 _=>exact⟨_,_,h1,rfl⟩
theorem Bmz{v:Value}{k:Nat}(h:V1 R (.c k) v):∃b c,R k=some (b,c)∧v = .chan (some b):=by cases h with|c h1 _=>exact⟨_,_,h1,rfl⟩
def Bpd(kn:Bool)(c d:Nat):Nat:=match kn with
 | true=>c
 | false=>d-c
theorem Avm{v:Value}{k off ln c:Nat}{kn:Bool}(h:V1 R (.sl k off ln kn c) v):∃b d,R k=some (b,d)∧v = .slice (some ⟨b,off,none⟩) ln (Bpd kn c d):=by
 cases h with
 | slK h1 _=>exact⟨_,_,h1,rfl⟩
 | slU h1 _=>exact⟨_,_,h1,rfl⟩
/-- What the run says of an operation that yields a value. -/
def Oc(P:Program)(o:Op):Prop:=∀R e e' m x m',EnvR R e e'→Acs R→(opK P o).run e m = .v x m'→(m'=m∧Amy P o R e' x)∨Bdz P o R e' m x m'
theorem Ob{x y:CV}{m m':Mem}(h:OR.v x m = .v y m'):x=y∧m=m':=by cases h;exact⟨rfl,rfl⟩
theorem Bch(a:Operand):Oc P (.move a):=fun R e e' m x m' he hg h=>by
 obtain⟨rfl,rfl⟩:=Ob h
 exact .inl ⟨rfl,_,Em he hg a,fun ρ σ dd ty pos af g=>⟨rfl,rfl⟩⟩
theorem Atk(a:Operand):Oc P (.assign a):=fun R e e' m x m' he hg h=>by
 obtain⟨rfl,rfl⟩:=Ob h
 exact .inl ⟨rfl,_,Em he hg a,fun ρ σ dd ty pos af g=>⟨rfl,rfl⟩⟩
theorem Bci(c a b:Operand):Oc P (.pick c a b):=fun R e e' m x m' he hg h=>by
 have hc:=Em he hg c
 have h':(match (rdK c).run e with | .b true=>OR.v ((rdK a).run e) m | .b false=>.v ((rdK b).run e) m|_=>.bad) = .v x m':=h
 split at h'
 ·rename_i hb
  rw[hb]at hc
  obtain⟨rfl,rfl⟩:=Ob h'
  refine .inl ⟨rfl,_,Em he hg a,fun ρ σ dd ty pos af g=>?_⟩
  show wpS P ρ (do pure (Next.value (if ←asBool (Af e' c) then Af e' a else Af e' b)):Sem Next) σ _
  rw[Ayk hc];exact⟨rfl,rfl⟩
 ·rename_i hb
  rw[hb]at hc
  obtain⟨rfl,rfl⟩:=Ob h'
  refine .inl ⟨rfl,_,Em he hg b,fun ρ σ dd ty pos af g=>?_⟩
  show wpS P ρ (do pure (Next.value (if ←asBool (Af e' c) then Af e' a else Af e' b)):Sem Next) σ _
  rw[Ayk hc];exact⟨rfl,rfl⟩
 ·cases h'
theorem Bfw(t:TypeId)(a:Operand):Oc P (.unOp .not t a):=fun R e e' m x m' he hg h=>by
 have ha:=Em he hg a
 have h':(match (rdK a).run e with | .b v=>OR.v (.b !v) m|_=>.bad) = .v x m':=h
 split at h'
 ·rename_i v hb
  rw[hb]at ha
  obtain⟨rfl,rfl⟩:=Ob h'
  exact .inl ⟨rfl,Wb (Op.unary .not (Af e' a)) (fun _ _ _ _ _=>rfl) (.b _ .nil) fun ρ σ=>by rw[Ayk ha];exact⟨rfl,rfl⟩⟩
 ·cases h'
theorem Aml(a:Operand):Oc P (.nilCheck a):=fun R e e' m x m' he hg h=>by
 have ha:=Em he hg a
 have h':(match (rdK a).run e with | .p k off=>OR.v (.p k off) m|_=>.bad) = .v x m':=h
 split at h'
 ·rename_i k off hb
  rw[hb]at ha
  obtain⟨rfl,rfl⟩:=Ob h'
  obtain⟨b,c,d,f⟩:=Bds ha
  refine .inl ⟨rfl,_,.p d .nil,fun ρ σ dd ty pos af g=>?_⟩
  unfold execOp
  simp only[f]
  exact⟨rfl,rfl⟩
 ·cases h'
theorem Aku(he:EnvR R e e')(hg:Acs R)(xs:Array Operand):∃vs:List Value,VR R ((rdsK xs.toList).run e) vs∧xs.map (Af e')=vs.toArray:=by
 refine⟨_,Adv he hg xs.toList,?_⟩
 rw[←List.map_toArray,Ajm]
theorem Ami(f:FuncId)(xs ys:Array Operand):Oc P (.makeFunc (.func f) xs ys):=fun R e e' m x m' he hg h=>by
 obtain⟨rfl,rfl⟩:=Ob h
 obtain⟨vs,a,b⟩:=Aku he hg xs
 obtain⟨ws,c,d⟩:=Aku he hg ys
 refine .inl ⟨rfl,_,.f f a c .nil,fun ρ σ dd ty pos af g=>?_⟩
 show wpS P ρ ((Instr.makeFunc (.func f) (xs.map (Af e')) (ys.map (Af e'))).bind fun v=>Sem.pure (Next.value v)) σ _
 rw[b,d];exact⟨rfl,rfl⟩
theorem Aqs(a:Operand)(i:Nat):Oc P (.extract a i):=fun R e e' m x m' he hg h=>by
 have ha:=Em he hg a
 have h':(match (rdK a).run e with | .t l=>xVOf m (xNth i l)|_=>.bad) = .v x m':=h
 split at h'
 ·rename_i l hb
  rw[hb]at ha
  rw[Ahq]at h'
  cases hi:l[i]? with
  | none=>rw[hi]at h';cases h'
  | some w =>
   rw[hi]at h'
   obtain⟨rfl,rfl⟩:=Ob h'
   obtain⟨l',b,c⟩:=Bsv ha
   obtain⟨v,d,f⟩:=b.at hi
   exact .inl ⟨rfl,Wb (Instr.extract (Af e' a) i) (fun _ _ _ _ _=>rfl) f fun ρ σ=>by rw[c];simp only[Instr.extract,Pe,d];exact⟨rfl,rfl⟩⟩
 ·cases h'
theorem Bjy{op:BinOp}{t:TypeId}{k:IntKind}{a b:Int}{w:CV}(h:binN op k a b=some w):∃v,V1 R w v∧binOp op t (.int k a) (.int k b)=pure v:=by
 cases op<;>simp only[binN,Option.some.injEq]at h<;>first|(cases h;done)|skip
 all_goals subst h
 ·exact⟨_,.i _ _ .nil,by simp only[binOp,ne_eq,not_true,if_false];rfl⟩
 ·exact⟨_,.i _ _ .nil,by simp only[binOp,ne_eq,not_true,if_false];rfl⟩
 ·exact⟨_,.i _ _ .nil,by simp only[binOp,ne_eq,not_true,if_false];rfl⟩
 ·exact⟨_,.i _ _ .nil,by simp only[binOp,ne_eq,not_true,if_false];rfl⟩
 ·exact⟨_,.i _ _ .nil,by simp only[binOp,ne_eq,not_true,if_false];rfl⟩
 ·exact⟨_,.i _ _ .nil,by simp only[binOp,ne_eq,not_true,if_false];rfl⟩
 ·exact⟨_,.b _ .nil,by rw[Arq];simp only[binOp,ne_eq,not_true,if_false];rfl⟩
 ·exact⟨_,.b _ .nil,by rw[Arq];simp only[binOp,ne_eq,not_true,if_false];rfl⟩
 ·exact⟨_,.b _ .nil,by rw[Aad];simp only[binOp,ne_eq,not_true,if_false];rfl⟩
 ·exact⟨_,.b _ .nil,by rw[Aad,not_lt];simp only[binOp,ne_eq,not_true,if_false];rfl⟩
 ·exact⟨_,.b _ .nil,by rw[Aad];simp only[binOp,ne_eq,not_true,if_false];rfl⟩
 ·exact⟨_,.b _ .nil,by rw[Aad,not_lt];simp only[binOp,ne_eq,not_true,if_false];rfl⟩
theorem Bbh(op:BinOp)(k:IntKind)(a b:Int)(w:CV)(h:(binKN op).run k a b=some w):binN op k a b=some w:=by
 cases op<;>first|exact h|cases h
theorem Awd{op:BinOp}{t t':TypeId}{a b:Operand}{w:CV}{v u z:Value}(ha:Af e' a=u)(hb:Af e' b=z)(hg:eqGuard op t a b u z=pure ())(hv:V1 R w v)(h:binOp op t u z=pure v):Amy P (.binOp op t a b t') R e' w :=
 Wb (do eqGuard op t a b (Af e' a) (Af e' b);binOp op t (Af e' a) (Af e' b)) (fun _ _ _ _ _=>rfl) hv fun ρ σ=>by rw[ha,hb,hg,h];exact⟨rfl,rfl⟩
theorem Adf{t:TypeId}{ks:List IntKind}(h:flatT P t=some ks):∃fs:Array Field,P.underlying t=some (.struct fs)∧P.stoodInHeld t=false∧P.eqGuardType P.depth t=false∧flatK P 0 fs.toList=some ks:=by
 unfold flatT at h
 split at h
 ·rename_i fs h1 h2 h3;exact⟨fs,h3,h1,h2,h⟩
 ·cases h
theorem Aww{n:Nat}{f:Field}{fs:List Field}{ks:List IntKind}(h:flatK P n (f::fs)=some ks):∃k l,ks=k::l∧f.name ≠ "_"∧f.offset=n∧P.underlying f.type=some (.int k)∧flatK P (n+1) fs=some l:=by
 unfold flatK at h
 split at h
 ·rename_i k l h1 h2 h3 h4
  cases h
  exact⟨k,l,rfl,by simpa using h1,Sp h2,h3,h4⟩
 ·cases h
theorem Ait{k:IntKind}{ks:List IntKind}{x y:List CV}{r:Bool}(h:eqF (k::ks) x y=some r):∃a x' b y' r',x = .i k a::x'∧y = .i k b::y'∧eqF ks x' y'=some r'∧r=(a==b&&r'):=by
 replace h:eqF1 k (eqF ks) x y=some r:=h
 unfold eqF1 at h
 split at h
 ·split at h
  ·rename_i k1 a x' k2 b y' _ _ h1 h2
   cases hr:eqF ks x' y' with
   | none=>rw[hr]at h;cases h
   | some r' =>
    rw[hr]at h
    simp only[Option.some.injEq]at h
    rw[←Zd h1,←Zd h2]
    exact⟨a,x',b,y',r',rfl,rfl,hr,by rw[←h,Arq];cases (a==b)<;>rfl⟩
  ·cases h
 ·cases h
theorem Aiu:∀(fs:List Field) (n:Nat) (ks:List IntKind) (x y:List CV) (xs ys:List Value) (r:Bool),flatK P n fs=some ks→eqF ks x y=some r→VR R x (xs.drop n)→VR R y (ys.drop n)→∃ps qs,EqF P xs.toArray ys.toArray fs ps qs∧r=decide (ps=qs)
 | [],n,ks,x,y,xs,ys,r,h1,h2,h3,h4=>by
  cases h1
  replace h2:eqF0 x y=some r:=h2
  unfold eqF0 at h2
  split at h2
  ·cases h2;exact⟨[],[],trivial,rfl⟩
  ·cases h2
 | f::fs,n,ks,x,y,xs,ys,r,h1,h2,h3,h4=>by
  obtain⟨k,l,rfl,hn,ho,hk,v⟩:=Aww h1
  obtain⟨a,x',b,y',r',rfl,rfl,B,C⟩:=Ait h2
  have hd:∀{z:List CV} {zs:List Value} {c:Int},VR R (.i k c::z) (zs.drop n)→zs[n]?=some (.int k c)∧VR R z (zs.drop (n+1)):=fun {z zs c} h=>by
   cases hz:zs.drop n with
   | nil=>rw[hz]at h;cases h
   | cons w ws =>
    rw[hz]at h
    obtain⟨d,e⟩:=VR.cons_iff.1 h
    have g:=Wk d
    subst g
    have j:zs[n]?=some (.int k c):=by
     have:=congrArg List.head? hz
     simpa using this
    have m:zs.drop (n+1)=ws:=by
     have:=congrArg List.tail hz
     simpa using this
    exact⟨j,by rw[m];exact e⟩
  obtain⟨d,e⟩:=hd h3
  obtain⟨p,q⟩:=hd h4
  obtain⟨ps,qs,t,u⟩:=Aiu fs (n+1) l x' y' xs ys r' v B e q
  refine⟨a::ps,b::qs,⟨⟨hn,k,hk,by rw[ho];simpa using d,by rw[ho];simpa using p⟩,t⟩,?_⟩
  rw[C,u]
  by_cases hab:a=b
  ·subst hab;simp
  ·have:(a==b)=false:=by simpa using hab
   rw[this];simp[hab]
theorem Bfu(op:BinOp)(t:TypeId)(a b:Operand)(t':TypeId):Oc P (.binOp op t a b t'):=fun R e e' m x m' he hg h=>by
  have ha:=Em he hg a
  have hb:=Em he hg b
  have G : ∀(hh : (match (rdK a).run e, (rdK b).run e with
        | .i k u,.i k' z=>match xKind k k' with
          | true=>match (binKN op).run k u z with|some v=>OR.v v m|none=>.bad
          | false=>.bad
        | _,_=>.bad) = .v x m'),m'=m∧Amy P (.binOp op t a b t') R e' x:=fun hh=>by
    split at hh
    · rename_i k u k' z hu hz
      split at hh
      · rename_i hk
        have hk:=Zd hk
        subst hk
        cases hw:(binKN op).run k u z with
        | none=>rw[hw]at hh;cases hh
        | some w =>
          rw[hw]at hh
          obtain⟨rfl,rfl⟩:=Ob hh
          rw[hu]at ha;rw[hz]at hb
          obtain⟨v,c,d⟩:=Bjy (R:=R) (t:=t) (Bbh _ _ _ _ _ hw)
          exact⟨rfl,Awd (Wk ha) (Wk hb) Dh c d⟩
      · cases hh
    · cases hh
  unfold opK at h
  simp only at h
  split at h
  · split at h
    · have h':(match (rdK a).run e,(rdK b).run e with | .i k u,.i _ (.ofNat n)=>OR.v (.i k (k.wrap (u*2^(min n k.bits)))) m|_,_=>.bad) = .v x m':=h
      split at h'
      · rename_i k u k' n hu hz
        obtain⟨rfl,rfl⟩:=Ob h'
        rw[hu]at ha;rw[hz]at hb
        refine .inl ⟨rfl,Awd (Wk ha) (Wk hb) Dh (.i _ _ .nil) ?_⟩
        show Op.shift .shl k u k' (Int.ofNat n)=_
        unfold Op.shift
        rw[if_neg (show ¬(Int.ofNat n<0) from Int.not_lt.2 (Bcq n))]
        rfl
      · cases h'
    · have h':(match (rdK a).run e,(rdK b).run e with | .i k u,.i _ (.ofNat n)=>OR.v (.i k (u.fdiv (2^(min n k.bits)))) m|_,_=>.bad) = .v x m':=h
      split at h'
      · rename_i k u k' n hu hz
        obtain⟨rfl,rfl⟩:=Ob h'
        rw[hu]at ha;rw[hz]at hb
        refine .inl ⟨rfl,Awd (Wk ha) (Wk hb) Dh (.i _ _ .nil) ?_⟩
        show Op.shift .shr k u k' (Int.ofNat n)=_
        unfold Op.shift
        rw[if_neg (show ¬(Int.ofNat n<0) from Int.not_lt.2 (Bcq n))]
        rfl
      · cases h'
    · exact .inl (G h)
  · rename_i ks hf
    obtain⟨fs,c,d,E,F⟩:=Adf hf
    split at h
    · have h':(match (rdK a).run e,(rdK b).run e with | .g p,.g q=>(match eqF ks p q with|some r=>OR.v (.b r) m|none=>.bad)|_,_=>.bad) = .v x m':=h
      split at h'
      · rename_i p q hu hz
        rw[hu]at ha;rw[hz]at hb
        cases hr:eqF ks p q with
        | none=>rw[hr]at h';cases h'
        | some r =>
          rw[hr]at h'
          obtain⟨rfl,rfl⟩:=Ob h'
          obtain⟨p',f,j⟩:=Amu ha
          obtain⟨q',l,B⟩:=Amu hb
          obtain⟨ps,qs,C,D⟩:=Aiu fs.toList 0 ks p q p' q' r F hr f l
          refine .inl ⟨rfl,_,.b _ .nil,fun ρ σ dd ty pos af g=>?_⟩
          have:=Acg (P:=P) (ρ:=ρ) (e:=e') (ty:=ty) (t':=t') (x:=a) (y:=b) (fs:=fs.toList) (by rw[Ajm];exact c) d E j B C
          rw[D]
          exact this ρ σ dd pos af g fun _ _ h=>h
      · cases h'
    · have h':(match (rdK a).run e,(rdK b).run e with | .g p,.g q=>(match eqF ks p q with|some r=>OR.v (.b !r) m|none=>.bad)|_,_=>.bad) = .v x m':=h
      split at h'
      · rename_i p q hu hz
        rw[hu]at ha;rw[hz]at hb
        cases hr:eqF ks p q with
        | none=>rw[hr]at h';cases h'
        | some r =>
          rw[hr]at h'
          obtain⟨rfl,rfl⟩:=Ob h'
          obtain⟨p',f,j⟩:=Amu ha
          obtain⟨q',l,B⟩:=Amu hb
          obtain⟨ps,qs,C,D⟩:=Aiu fs.toList 0 ks p q p' q' r F hr f l
          refine .inl ⟨rfl,_,.b _ .nil,fun ρ σ dd ty pos af g=>?_⟩
          have:=Aci (P:=P) (ρ:=ρ) (e:=e') (ty:=ty) (t':=t') (x:=a) (y:=b) (fs:=fs.toList) (by rw[Ajm];exact c) d E j B C
          rw[D]
          exact this ρ σ dd pos af g fun _ _ h=>h
      · cases h'
    · cases h
end
end
end Go.Proofs.YtninnkechkolnaaGreatDoor
