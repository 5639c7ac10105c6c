/- Part 2 of what all laws of layer 8 need: a logic of programs that start goroutines, and what the functions yield. -/
import Derived.Test.YtninnkechkolnaaGreatDoorB1
import Derived.Carry
import Derived.ChangeArms
import Derived.ChangeSame
import Derived.ChangeVars
import Derived.Conc.Holds
import Derived.Conc.LeavingOf
import Derived.Conc.Quits
import Derived.FnData
import Derived.LaidHandle
import Derived.LaidLaws
import Derived.LaidMore
import Derived.OpenShut
import Derived.RowKit
import Derived.SevenTiedAt
import Derived.SizedLaws
import Derived.Stop.Joined
import Derived.Test.YtninnkechkolnaaGreatDoorCards
import Derived.Test.YtninnkechkolnaaGreatDoorRows
import Derived.Test.YtninnkechkolnaaGreatDoorTie
import Derived.WideShapes
set_option linter.unusedVariables false
set_option linter.unusedSimpArgs false
set_option maxRecDepth 100000
set_option maxHeartbeats 4000000
namespace Go.Proofs.YtninnkechkolnaaGreatDoor
section
open Go
section
variable{C:Ctx}{e:Env}{ds:List Deferred}{ρ:Ro}{σ:Own}{K:Value→List Deferred→Ro→Own→Prop}{rd:Option Nat}{dd:Option Tmp}
variable{ty:TypeId}{pos:String}{af:Array Edge}{g:Option (Nat×Bool)}{x y:Operand}{v p:Value}{t t':TypeId}{P:Program}
theorem Qm{v}(h:single v=true):v.cells = #[v]:=by
 cases v<;>first|rfl|(simp[single]at h)
/-- One cell of an owned block is stored. -/
theorem Cz{c:List Value}{r off j}(hz:∃i,C.P.info? t=some i∧i.size=1)(hx:Af e x = .pointer (some ⟨r,off,none⟩))(hy:Af e y=v)(hs:single v=true)(hj:σ[j]?=some (r,.obj (.cells c.toArray t' (0,0))))(hl:off<c.length)(h:K undef ds ρ (σ.set j (r,.obj (.cells (c.set off v).toArray t' (0,0))))):
  wpS C.P ρ (execOp (Af e) ⟨dd,.store t x y,ty,pos,af,g⟩) σ (NextH C K rd ds ρ):=by
 refine Li (vs:=[v]) (c:=c) (c':=c.set off v) hz hx hy (Qm hs) rfl (by simpa using hs) hj (by simpa using Nat.succ_le_of_lt hl) ?_ h
 simp only[over]
theorem Ajx{k p q tys}(hx:Af e x = .int k p)(hy:Af e y = .int k q):Yld P ρ e (.call ⟨.builtin .min,#[x,y],tys⟩) ty (.int k (min p q)):=by
 refine Mc (args:=[x,y]) (vs:=[.int k p,.int k q]) (s:=fun _=>pure (.int k (min p q))) (by simp[hx,hy]) (fun cs=>?_) ?_
 ·have a:builtin .min tys ty cs [.int k p,.int k q].toArray=(Builtin.min_ tys ty #[.int k p,.int k q]).bind fun v=>Sem.pure (Next.value v):=rfl
  rw[a]
  have b:Builtin.min_ tys ty #[.int k p,.int k q]=pure (.int k (min p q)):=by
   simp only[Builtin.min_,Bfc,List.foldlM_nil,Builtin.min2]
   have:(if q<p then q else p)=min p q:=by split<;>omega
   rw[this];rfl
  rw[b]
 ·exact fun cs ρ' σ' _=>⟨rfl,rfl⟩
def Wu(P:Program):List Field→List Nat→Prop
 | [],[]=>True
 | f::fs,n::ns=>(∃i,P.info? f.type=some i∧i.size=n)∧Wu P fs ns
 | _,_=>False
def Gs:List Field→List Nat→List (Nat×Nat)
 | f::fs,n::ns=>(f.offset,n)::Gs fs ns
 | _,_=>[]
theorem Ux{P:Program}{Q:Array (Nat×Nat)→Own→Prop}:∀(fs:List Field) (ns:List Nat) (acc:Array (Nat×Nat)),Wu P fs ns→Q (acc++(Gs fs ns).toArray) σ →
  wpS P ρ (List.foldlM (m:=Sem) (fun (bs:Array (Nat×Nat)) (f:Field)=>Functor.map bs.push (do pure (f.offset,←sizeOf f.type))) acc fs) σ Q
 | [],[],acc,_,h=>by
  have e1:acc++(Gs [] []).toArray=acc:=by simp[Gs]
  rw[e1]at h
  exact h
 | f::fs,n::ns,acc,hs,h=>by
  rw[Bfc]
  show wpS P ρ (Sem.bind _ _) σ Q
  rw[Ad]
  show wpS P ρ (Sem.bind (Sem.bind (sizeOf f.type) _) _) σ _
  rw[Ad,Ad]
  refine Dx hs.1 ?_
  show wpS P ρ (List.foldlM _ (acc.push (f.offset,n)) fs) σ Q
  refine Ux fs ns _ hs.2 ?_
  have e1:acc.push (f.offset,n)++(Gs fs ns).toArray=acc++(Gs (f::fs) (n::ns)).toArray:=by
   apply Array.ext';simp[Gs]
  rw[e1];exact h
theorem Be{place c cs i off v rest}(hv:v.cells=cs.toArray)(hp:place i=some (off,cs.length))(hl:off+cs.length≤c.length):
  Instr.fill place c.toArray ((i,v)::rest)=Instr.fill place (over c off cs).toArray rest:=by
 simp only[Instr.fill,hp,hv]
 have a:(decide (cs.toArray.size≠cs.length)||decide (off+cs.toArray.size>c.toArray.size))=false:=by
  simp only[Atm,Bool.or_eq_false_iff,decide_eq_false_iff_not]
  exact⟨by simp,by omega⟩
 rw[if_neg (by simpa using a)]
 congr 1
 have:=Pd cs c off 0
 rw[←Array.foldl_toList]
 simp only[Array.toList_zipIdx,Bjp]
 rw[this,Ato]
theorem Dn{fs ns z}{zc cs:List Value}{ps:List (Nat×Operand)}{vs}(hT:P.underlying t=some (.struct fs.toArray))(hz:Fw P t z)(hzc:z.cells=zc.toArray)(hn:Wu P fs ns)(hp:ps.map (fun p=>(p.1,Af e p.2))=vs)(hf:Instr.fill ((Gs fs ns)[·]?) zc.toArray vs=some cs.toArray):Yld P ρ e (.build t ps.toArray) ty (.agg cs.toArray) :=
 Mt (s:=Instr.build t (ps.toArray.map fun (p:Nat×Operand)=>(p.1,Af e p.2))) (fun _ _ _ _=>rfl) fun ρ' σ _=>by
  have hps:(ps.toArray.map fun (p:Nat×Operand)=>(p.1,Af e p.2))=vs.toArray:=by rw[←hp];simp
  rw[hps]
  unfold Instr.build
  show wpS P ρ' ((zeroValue t).bind _) σ _
  rw[Ad]
  refine Jz hz ?_
  show wpS P ρ' ((underlying t).bind _) σ _
  rw[Ad]
  refine Az hT ?_
  dsimp only
  show wpS P ρ' (Sem.bind _ _) σ _
  rw[Ad,Bjn,Bix]
  refine Ux fs ns #[] hn ?_
  have a:(fun (x:Nat)=>(#[]++(Gs fs ns).toArray)[x]?)=fun (x:Nat)=>(Gs fs ns)[x]?:=by funext x;simp
  simp only[a,hzc,hf]
  exact⟨rfl,rfl⟩
def EvB(e:Env):List (Nat×Operand)→List (Nat×Value)→Prop
 | [],[]=>True
 | p::ps,q::qs=>(p.1=q.1∧Af e p.2=q.2)∧EvB e ps qs
 | _,_=>False
theorem EvB.map{e:Env}:∀{ps:List (Nat×Operand)} {qs:List (Nat×Value)},EvB e ps qs→ps.map (fun p=>(p.1,Af e p.2))=qs
 | [],[],_=>rfl
 | p::ps,q::qs,h=>by
  rw[Qc,EvB.map h.2,h.1.1,h.1.2]
 | [],_::_,h=>h.elim
 | _::_,[],h=>h.elim
theorem Val.single_l{α}[Dat α]{ρ v}{xs:List α}(h:Val ρ v xs):single v=true:=by
 obtain⟨a,len,cap,b,_⟩:=Cs.1 h
 rw[b];rfl
theorem Val.cells_l{α}[Dat α]{ρ v}{xs:List α}(h:Val ρ v xs):v.cells=[v].toArray:=Qm h.single_l
theorem Grow.single{α}[Dat α]{ρ el v}{xs:List α}{gr}(h:Grow ρ el v xs gr):single v=true:=by
 rcases h.2.2 with⟨a,_⟩|⟨r,cap,cs,rs,gb,a,_⟩<;>rw[a]<;>rfl
theorem Cb{r off off0 off' i fs f n'}(hT:P.underlying t=some (.struct fs))(hi:fs[i]?=some f)(ho:f.offset=off0)(hF:∃i,P.info? f.type=some i∧i.size=n')(hk:n'≠0)(hx:Af e x = .pointer (some ⟨r,off,none⟩))(ho':off+off0=off'):
  Yld P ρ e (.fieldAddr t x i) ty (.pointer (some ⟨r,off',none⟩)):=Ajt hT hi ho hF hk hx ho'
theorem Je{r off off0 off' i fs f n' j}(hT:P.underlying t=some (.struct fs))(hi:fs[i]?=some f)(hF:P.info? f.type=some j)(hs:j.size=n':=by exact rfl)(ho:f.offset=off0:=by exact rfl)(hk:n'≠0:=by decide)(hx:Af e x = .pointer (some ⟨r,off,none⟩):=by exact rfl)(ho':off+off0=off':=by exact rfl):Yld P ρ e (.fieldAddr t x i) ty (.pointer (some ⟨r,off',none⟩)):=Cb hT hi ho ⟨_,hF,hs⟩ hk hx ho'
theorem Cq{r off off' len k' el k q}(i:Nat)(hT:P.underlying t=some (.array len el))(hE:∃i,P.info? el=some i∧i.size=k')(hx:Af e x = .pointer (some ⟨r,off,none⟩))(hy:Af e y = .int k q)(hq:q=(i:Int))(hi:i<len)(ho:off+i*k'=off'):
  Yld P ρ e (.indexAddr t x y) ty (.pointer (some ⟨r,off',none⟩)):=Aju i hT hE hx hy hq hi ho
theorem Afy{r off off' len cap k' el k q}(i:Nat)(hT:P.underlying t=some (.slice el))(hE:∃i,P.info? el=some i∧i.size=k')(hx:Af e x = .slice (some ⟨r,off,none⟩) len cap)(hy:Af e y = .int k q)(hq:q=(i:Int))(hi:i<len)(ho:off+i*k'=off'):
  Yld P ρ e (.indexAddr t x y) ty (.pointer (some ⟨r,off',none⟩)):=Ajv i hT hE hx hy hq hi ho
def Apk:List Value→Prop
 | []=>True
 | v::vs=>single v=true∧Apk vs
theorem Zh:∀{vs:List Value},Apk vs→∀w∈vs,single w=true
 | [],_,w,h=>by cases h
 | v::vs,hs,w,h=>by
  rcases Nc.1 h with rfl|h
  ·exact hs.1
  ·exact Zh hs.2 w h
theorem Bbf{a n cap el}(hT:P.underlying t=some (.slice el))(hx:Af e x = .slice a n cap):Yld P ρ e (.call ⟨.builtin .len,#[x],#[t]⟩) ty (.int .i64 (n:Int)):=by
 refine Mc (args:=[x]) (vs:=[.slice a n cap]) (s:=fun _=>Builtin.len_ #[t] ty #[.slice a n cap]) (by simp[hx]) (fun cs=>rfl) ?_
 intro ρ' σ' cs _
 show wpS P ρ' ((underlying t).bind _) σ' _
 rw[Ad]
 refine Az hT ?_
 exact⟨rfl,rfl⟩
end
section
variable{P:Program}{b:FB}{n:Nat}{l₀ rest:List Oper}{Q:Env→List Deferred→Ro→Own→Prop}{e:Env}{ds:List Deferred}{ρ:Ro}{σ:Own}
variable{d:Nat}{ty t:TypeId}{pos:String}{af:Array Edge}{g:Option (Nat×Bool)}{x:Operand}{v z:Value}
end
abbrev Cak:=@Grow.single
end
section
open Go
section
variable{C:Ctx}{e:Env}{ds:List Deferred}{ρ:Ro}{σ:Own}{K:Value→List Deferred→Ro→Own→Prop}{rd:Option Nat}{dd:Option Tmp}
variable{ty:TypeId}{pos:String}{af:Array Edge}{g:Option (Nat×Bool)}{x y u:Operand}{v p:Value}{t t':TypeId}{P:Program}
/-- The fields are numbers,one cell each: these here,and those there. -/
def EqF(P:Program)(xs ys:Array Value):List Field→List Int→List Int→Prop
 | [],[],[]=>True
 | f::fs,p::ps,q::qs=>((f.name ≠ "_")∧∃k,P.underlying f.type=some (.int k)∧xs[f.offset]?=some (.int k p)∧ys[f.offset]?=some (.int k q))∧EqF P xs ys fs ps qs
 | _,_,_=>False
theorem Qr{cs off Q}(hT:∃d,P.underlying t=some d∧Qv d=false)(hc:cs[off]?=some v)(h:Q v σ):wpS P ρ (part t cs off) σ Q:=by
 show wpS P ρ ((isAgg t).bind _) σ Q
 rw[Ad]
 refine Hi hT ?_
 simp only[hc]
 exact h
theorem Afv{k a b d Q}(hT:P.underlying t=some (.int k))(h:Q (a==b) σ):wpS P ρ (Op.equalIn (d+1) t (.int k a) (.int k b)) σ Q:=by
 show wpS P ρ ((underlying t).bind _) σ Q
 rw[Ad]
 refine Az hT ?_
 simp only[if_true]
 exact h
theorem Uv{xs ys:Array Value}{d:Nat}{K:(Option Bool×Unit)→Own→Prop}:∀(fs:List Field) (ps qs:List Int),EqF P xs ys fs ps qs→K (if ps=qs then none else some false,()) σ →
    wpS P ρ (forIn fs ((none, ()) : Option Bool×Unit) fun (f : Field) (__s : Option Bool×Unit) =>
            if f.name ≠ "_" then do
              let __do_lift ←part f.type xs f.offset
              let __do_lift_1 ←part f.type ys f.offset
              let __do_lift ←Op.equalIn (d+1) f.type __do_lift __do_lift_1
              if (!__do_lift)=true then pure (ForInStep.done (some false,())) else pure (ForInStep.yield (none,()))
            else pure (ForInStep.yield (none,()))) σ K
  | [],[],[],_,h=>h
  | f::fs,p::ps,q::qs,⟨⟨hn,k,hT,hx,hy⟩,hr⟩,h=>by
    rw[List.forIn_cons]
    show wpS P ρ (Sem.bind _ _) σ K
    rw[Ad,if_pos hn]
    show wpS P ρ ((part f.type xs f.offset).bind _) σ _
    rw[Ad]
    refine Qr ⟨_,hT,rfl⟩ hx ?_
    show wpS P ρ ((part f.type ys f.offset).bind _) σ _
    rw[Ad]
    refine Qr ⟨_,hT,rfl⟩ hy ?_
    show wpS P ρ ((Op.equalIn (d+1) f.type (.int k p) (.int k q)).bind _) σ _
    rw[Ad]
    refine Afv hT ?_
    cases hpq:(p==q) with
    | false =>
      have hne:¬(p::ps=q::qs):=fun h=>by injection h with h1;subst h1;simp at hpq
      rw[if_neg hne]at h
      exact h
    | true =>
      have he:p=q:=eq_of_beq hpq
      refine Uv fs ps qs hr ?_
      have:(p::ps=q::qs)↔ps=qs:=by subst he;simp
      simp only[this]at h
      exact h
  | [],[],_::_,h,_=>h.elim
  | [],_::_,_,h,_=>h.elim
  | _::_,[],_,h,_=>h.elim
  | _::_,_::_,[],h,_=>h.elim
theorem Ms{fs xs ys ps qs d Q}(hT:P.underlying t=some (.struct fs.toArray))(hs:P.stoodInHeld t=false)(hf:EqF P xs ys fs ps qs)(h:Q (decide (ps=qs)) σ):
  wpS P ρ (Op.equalIn (d+2) t (.agg xs) (.agg ys)) σ Q:=by
 show wpS P ρ ((underlying t).bind _) σ Q
 rw[Ad]
 refine Az hT ?_
 show wpS P ρ (Sem.bind program _) σ Q
 rw[Ad]
 show wpS P ρ (if P.stoodInHeld t then _ else _) σ Q
 rw[if_neg (by simp[hs])]
 simp only[Bca]
 show wpS P ρ (Sem.bind _ _) σ Q
 rw[Ad]
 refine Uv fs ps qs hf ?_
 by_cases he:ps=qs
 ·rw[if_pos he];rw[Oe he]at h;exact h
 ·rw[if_neg he];rw[Jw he]at h;exact h
/-- Structs of numbers are compared. -/
theorem Aci{fs xs ys ps qs}(hT:P.underlying t=some (.struct fs.toArray))(hs:P.stoodInHeld t=false)(hg:P.eqGuardType P.depth t=false)(hx:Af e x = .agg xs)(hy:Af e y = .agg ys)(hf:EqF P xs ys fs ps qs):
  Yld P ρ e (.binOp .neq t x y t') ty (.bool (!decide (ps=qs))) :=
 Mt (s:=(do eqGuard .neq t x y (Af e x) (Af e y);binOp .neq t (Af e x) (Af e y))) (fun _ _ _ _=>rfl) fun ρ' σ _=>by
  rw[hx,hy]
  show wpS P ρ' (Sem.bind (eqGuard .neq t x y (.agg xs) (.agg ys)) _) σ _
  rw[Ad]
  show wpS P ρ' (if (!P.eqGuardType P.depth t)=true then _ else _) σ _
  rw[if_pos (by simp[hg])]
  show wpS P ρ' ((Op.equal t (.agg xs) (.agg ys)).bind _) σ _
  rw[Ad]
  exact Ms (d:=9998) hT hs hf ⟨rfl,rfl⟩
theorem Acg{fs xs ys ps qs}(hT:P.underlying t=some (.struct fs.toArray))(hs:P.stoodInHeld t=false)(hg:P.eqGuardType P.depth t=false)(hx:Af e x = .agg xs)(hy:Af e y = .agg ys)(hf:EqF P xs ys fs ps qs):
  Yld P ρ e (.binOp .eql t x y t') ty (.bool (decide (ps=qs))) :=
 Mt (s:=(do eqGuard .eql t x y (Af e x) (Af e y);binOp .eql t (Af e x) (Af e y))) (fun _ _ _ _=>rfl) fun ρ' σ _=>by
  rw[hx,hy]
  show wpS P ρ' (Sem.bind (eqGuard .eql t x y (.agg xs) (.agg ys)) _) σ _
  rw[Ad]
  show wpS P ρ' (if (!P.eqGuardType P.depth t)=true then _ else _) σ _
  rw[if_pos (by simp[hg])]
  show wpS P ρ' ((Op.equal t (.agg xs) (.agg ys)).bind _) σ _
  rw[Ad]
  exact Ms (d:=9998) hT hs hf ⟨rfl,rfl⟩
def Ahx:Value→Nat
 | .slice (some a) _ _=>a.block
 | _=>0
theorem Nw{α}[Dat α]{xs:List α}{gr el el' off' k q}(i:Nat)(hT:P.underlying t=some (.slice el'))(hE:∃i,P.info? el'=some i∧i.size=Dat.k α)(hx:Af e x=v)(hv:Grow ρ el v xs gr)(hy:Af e y = .int k q)(hq:q=(i:Int))(hi:i<xs.length)(ho:i*Dat.k α=off'):
  Yld P ρ e (.indexAddr t x y) ty (.pointer (some ⟨Ahx v,off',none⟩)):=by
 rcases hv.2.2 with⟨_,b⟩|⟨r,cap,cs,rs,gb,a,_⟩
 ·rw[b]at hi;simp at hi
 ·subst a
  exact Afy i hT hE hx hy hq hi (by omega)
theorem Anh{α:Type}[Dat α]{xs:List α}{a:α}{gr:Own}{el:TypeId}{w:Value}{off i:Nat}(hE:∃i,C.P.info? t=some i∧i.size=Dat.k α)(hx:Af e x = .pointer (some ⟨Ahx v,off,none⟩))(ho:off=i*Dat.k α)(hy:Af e y=w)(hw:Val ρ w a)(hv:Grow ρ el v xs gr)(hi:i<xs.length)
  (h:∀gr',Grow ρ el v (xs.set i a) gr'→K undef ds ρ (gr'++σ)):wpS C.P ρ (execOp (Af e) ⟨dd,.store t x y,ty,pos,af,g⟩) (gr++σ) (NextH C K rd ds ρ):=by
 obtain⟨wc,m,D,G⟩:=hw.cells
 rcases hv.2.2 with⟨_,D⟩|⟨r,cap,cs,rs,gb,E,F,hr,hl,hc⟩
 ·rw[D]at hi;simp at hi
 ·subst E F
  have hwl:=Dat.len m
  have hcl:=hr.len
  have hb:i*Dat.k α+Dat.k α≤xs.length*Dat.k α:=by rw[←Nat.succ_mul];exact Bjo _ hi
  obtain⟨ca,cb,cc,b,j,d,l⟩:∃ca cb cc,cs=ca++(cb++cc)∧ca.length=i*Dat.k α∧cb.length=Dat.k α∧Rows ρ (ca++(wc++cc)) (xs.set i a):=by
   clear hv h hx hl hc hb hcl ho
   induction xs generalizing cs i with
   | nil=>simp at hi
   | cons z zs ih =>
    obtain⟨f,n,q,u,B⟩:=hr
    have hz:=Dat.len u
    cases i with
    | zero=>exact⟨[],f,n,by simp[q],by simp,hz,wc,n,rfl,m,B⟩
    | succ i =>
     obtain⟨ca,cb,cc,b,j,d,l⟩:=ih (i:=i) (by simpa using hi) _ B
     refine⟨f++ca,cb,cc,by rw[q,b];simp,by rw[lZ0,hz,j,Aaj,Ahs,Awe],d,f,ca++(wc++cc),by simp,u,l⟩
  refine Li (i:=0) (off:=off) (vs:=wc) (c:=cs++rs) (c':=(ca++(wc++cc))++rs) hE hx hy G hwl (Dat.sgl m) rfl (by rw[lZ0,hcl,hwl,ho];omega) ?_ ?_
  ·rw[Qe _ _ _ (by rw[lZ0,hcl,hwl,ho];omega),b,ho,←j,hwl,←d]
   rw[lZ9,Awd,←lZ9 ca,←Awi]
   simp[lZ9]
  ·refine h ((r,.obj (.cells ((ca++(wc++cc))++rs).toArray el (0,0)))::gb) ⟨fun p hp=>?_,by rw[Ui];exact hv.2.1,.inr ⟨r,cap,ca++(wc++cc),rs,gb,by rw[Ui],rfl,l,?_,by rw[Ui];exact hc⟩⟩
   ·rcases Nc.1 hp with rfl|hp
    ·exact⟨_,rfl⟩
    ·exact hv.1 p (lZ7 _ hp)
   ·rw[←hl,b];simp[hwl,d]
end
section
variable{C:Ctx}{b:FB}{l₀:List Oper}{Q:Env→List Deferred→Ro→Own→Prop}{ds:List Deferred}{ρ₀ ρ₁:Ro}{pz:List Nat}
/-- More may be read from here on,in a drawn region. -/
theorem Pm(hl:((List.range l₀.length).all fun j=>!Pg l₀.toArray pz j)=true)(h01:Ro.le ρ₀ ρ₁):∀{fuel:Nat} {li:Array Bool} {e:Env} {ds:List Deferred} {ρ:Ro} {σ:Own},Ro.le ρ₁ ρ→El C b l₀.toArray Q pz (leS ρ₁) fuel li e ds ρ σ→El C b l₀.toArray Q pz (leS ρ₀) fuel li e ds ρ σ
 | 0,li,e,ds,ρ,σ,_,h=>h
 | fuel+1,li,e,ds,ρ,σ,hS,h=>by
  rcases h with h|⟨ρ',σ',hg,h1,h2,h3⟩
  ·exact .inl h
  ·refine .inr ⟨ρ',σ',hg,fun _=>h01.trans (h1 hS),h2,fun i hi=>?_⟩
   have h4:=h3 i hi
   refine OpH.mono h4 fun e' ds' ρ'' σ'' ⟨c,d⟩=>?_
   have hi':i<l₀.length:=by
    have:=(List.mem_filter.1 (show i∈(List.range l₀.toArray.size).filter _ from hi)).1
    simpa using this
   have f:Pg l₀.toArray pz i=false:=by
    have:=Tk.1 hl i (by simpa using hi')
    simpa using this
   have a:=c f
   exact⟨fun _=>h01.trans a,Pm hl h01 a d⟩
end
end
section
open Go
/-- A pointer to data that is only read. -/
structure Ptr(α:Type) where
 v:α
instance{α:Type}[Dat α]:Dat (Ptr α) where
 k:=1
 agg:=false
 rep ρ cs x:=∃p,cs=[p]∧At ρ p x.v
 mono h:=fun⟨p,h1,h2⟩=>⟨p,h1,h2.mono h⟩
 len:=fun⟨p,h1,_⟩=>by rw[h1];rfl
 sgl:=fun⟨p,h1,b,off,_,_,_,_,_,h2,_⟩ c hc=>by rw[h1,Sl]at hc;rw[hc,h2];rfl
 one _:=rfl
theorem Ir{α}[Dat α]{ρ p}{x:α}:Val ρ p (Ptr.mk x)↔At ρ p x :=
 ⟨fun⟨cs,⟨q,a,b⟩,c⟩=>by rw[c,a];exact b,fun h=>⟨[p],⟨p,rfl,h⟩,rfl⟩⟩
/-- Two package-level variables,which nobody writes to. -/
structure Glob(ρ:Ro):Prop where
 over:∃t fz,ρ 2=some (.cells #[.int .i64 0,.int .i64 0] t fz)
 can:∃t fz,ρ 3=some (.cells #[.func (.func 250) #[] #[],.func (.func 227) #[] #[]] t fz)
theorem Glob.mono{ρ ρ'}(h:Ro.le ρ ρ')(hg:Glob ρ):Glob ρ' :=
 ⟨let ⟨t,fz,h1⟩:=hg.over;⟨t,fz,h _ _ h1⟩,let ⟨t,fz,h1⟩:=hg.can;⟨t,fz,h _ _ h1⟩⟩
section
variable{C:Ctx}{e:Env}{ds:List Deferred}{ρ:Ro}{σ:Own}{K:Value→List Deferred→Ro→Own→Prop}{rd:Option Nat}{dd:Option Tmp}
variable{ty:TypeId}{pos:String}{af:Array Edge}{g:Option (Nat×Bool)}{x y u:Operand}{v p:Value}{t t':TypeId}{P:Program}
theorem Ck{a}(hx:Af e x = .pointer (some a)):Yld P ρ e (.nilCheck x) ty (.pointer (some a)):=fun ρ' σ d pos af g _=>by
 unfold execOp
 simp only[hx]
 exact⟨rfl,rfl⟩
theorem At.ptr{α}[Dat α]{a:α}(h:At ρ p a):∃ad,p = .pointer (some ad):=let ⟨b,off,_,_,_,_,_,h1,_⟩:=h;⟨_,h1⟩
theorem Hj{α}[Dat α]{a:α}(hx:Af e x=p)(h:At ρ p a):Yld P ρ e (.nilCheck x) ty p:=by
 obtain⟨ad,rfl⟩:=h.ptr
 exact Ck hx
theorem Il{fn caps vs}(hv:EvL e caps vs):Yld P ρ e (.makeFunc fn #[] caps.toArray) ty (.func fn #[] vs.toArray):=fun ρ' σ d pos af g _=>by
 show wpS P ρ' ((Instr.makeFunc fn ((#[]:Array Operand).map (Af e)) (caps.toArray.map (Af e))).bind fun v=>Sem.pure (Next.value v)) σ _
 have b:(#[]:Array Operand).map (Af e) = #[]:=by simp
 rw[hv.map,b]
 exact⟨rfl,rfl⟩
/-- One cell of a block that is only read. -/
theorem Aae{b off c fz}(hT:∃d,P.underlying t=some d∧Qv d=false)(hx:Af e x = .pointer (some ⟨b,off,none⟩))(hb:ρ b=some (.cells c t' fz))(hc:c[off]?=some v):Yld P ρ e (.load t x) ty v :=
 Mt (s:=Instr.loadAt t (Af e x)) (fun _ _ _ _=>rfl) fun ρ' σ hle=>by
  rw[hx]
  show wpS P ρ' ((isAgg t).bind _) σ _
  rw[Ad]
  refine Hi hT ?_
  exact⟨rfl,rfl,_,v,.inl (hle _ _ hb),by simpa[Gy]using hc,rfl,rfl⟩
/-- A closure,or another function value,that is called. -/
theorem Sq{f fn args tys vs caps R}(hx:Af e x = .func (.func f) #[] caps.toArray)(hc:CallsH C f (vs++caps).toArray ρ σ R)(hf:C.P.funcs[f]?=some fn)(hn:(fn.name == "runtime.NumGoroutine")=false)(hb:fn.body.isNone=false)(hv:EvL e args vs)(h:∀v ρ' σ',R v ρ' σ'→K v ds ρ' σ'):wpS C.P ρ (execOp (Af e) ⟨dd,.call ⟨.value x,args.toArray,tys⟩,ty,pos,af,g⟩) σ (NextH C K rd ds ρ):=by
 have hv':=hv.map
 show wpS C.P ρ ((Deferred.ofValue (Af e x) (args.toArray.map (Af e))).bind _) σ _
 rw[hx,hv']
 show wpS C.P ρ (callFunc f ((#[]++vs.toArray)++caps.toArray)) σ _
 have a:((#[]++vs.toArray)++caps.toArray:Array Value)=(vs++caps).toArray:=by simp
 rw[a]
 exact Mr hf hn hb (hc.mono h)
end
theorem Yp{I:List Value→Ro→Own→Prop}{pre pre' ρ σ}(h:pre'=pre)(hi:I pre ρ σ):I pre' ρ σ:=by rw[h];exact hi
theorem Fe(A B C:Own):(A++(B++C)).Perm (B++(A++C)):=Bjl A B C
theorem Xg{α:Type}{f:α→Value}(hf:∀a b,f a=f b→a=b):∀{l m:List α},l.map f=m.map f→l=m
 | [],[],_=>rfl
 | [],_::_,h=>by cases h
 | _::_,[],h=>by cases h
 | a::l,b::m,h=>by
  simp only[Qc,List.cons.injEq]at h
  rw[hf a b h.1,Xg hf h.2]
theorem Nf{α:Type}{f:α→Value}(hf:∀a b,f a=f b→a=b){l m:List α}(h:l.map f=m.map f):m=l:=(Xg hf h).symm
theorem Ly{α:Type}{f:α→Value}(hf:∀a b,f a=f b→a=b){l l1:List α}{x:Value}{post:List Value}(h:l.map f=l1.map f++x::post):∃a l2,l=l1++a::l2∧x=f a:=by
 obtain⟨k,m,c,d,e⟩:=List.map_eq_append_iff.1 h
 obtain⟨a,l2,g,i,j⟩:=List.map_eq_cons_iff.1 e
 have:=Xg hf d
 subst this
 exact⟨a,l2,by rw[c,g],i.symm⟩
section
variable{C:Ctx}{e:Env}{ds:List Deferred}{ρ:Ro}{σ:Own}{K:Value→List Deferred→Ro→Own→Prop}{rd:Option Nat}{dd:Option Tmp}
variable{ty:TypeId}{pos:String}{af:Array Edge}{g:Option (Nat×Bool)}{x y u:Operand}{v p:Value}{t t':TypeId}{P:Program}
theorem Xt{old new Q}(hw:old=new)(h:Q new σ):wpS P ρ (Instr.keyThatStays old new) σ Q:=by
 subst hw
 unfold Instr.keyThatStays
 split
 ·exact h
 ·show wpS P ρ (Sem.bind (choose _) _) σ Q
  rw[Ad]
  show (if _ then _ else _)
  have key:∀n:Nat,(if n=0 then old else old)=old:=fun n=>by split<;>rfl
  split
  ·simp only[key];exact h
  ·intro t;simp only[key];exact h
end
end
section
open Go Go.WideShapes
/-- What may be read of a world: all its blocks but channels. -/
def roW(W:World):Ro:=fun b=>match W.heap[b]? with
 | some o=>if o.isChan then none else some o
 | none=>none
theorem Anl{W}(b:Nat)(o:Obj)(h:roW W b=some o):W.heap[b]?=some o∧o.isChan=false:=by
 unfold roW at h
 cases hb:W.heap[b]? with
 | none=>rw[hb]at h;cases h
 | some o' =>
  rw[hb]at h
  simp only at h
  cases hc:o'.isChan with
  | true=>rw[hc]at h;cases h
  | false=>rw[hc]at h;simp at h;subst h;exact⟨rfl,hc⟩
theorem Vz{W b t c fz}(h:W.heap[b]?=some (.cells c t fz)):roW W b=some (.cells c t fz):=by
 unfold roW;rw[h];rfl
/-- A type whose readings are data of this kind. -/
def Api(α:Type)[Dat α](t:TypeId):Prop :=
 Tryz.prog.cellsOf t=Dat.k α∧∀(H:Type) (enc:TypeId×Value→H) (W:World) (fuel:Nat) (cs:List Value) (x:DataW H×List MemPlace),
  DataW.trod enc Tryz.prog W 0 (fun _=>true) true fuel t cs=some x→(∀n∈x.1.weights Tryz.prog t,n≤reachBytes)→∃a:α,Dat.rep (roW W) cs a
theorem Axb{n}(h:n≤reachBytes):n<2^60:=by unfold reachBytes at h;omega
theorem Ys{t}(ht:Tryz.prog.underlying t=some (.int .i64))(hc:Tryz.prog.cellsOf t=1):Api Int t :=
 ⟨hc,fun H enc W c cs x h _=>by
  obtain⟨n,a,_,b⟩:=DataW.trod_int ht h
  refine⟨n,a,?_⟩
  simp[Lit.wf,IntKind.min,IntKind.max,IntKind.signed,IntKind.bits]at b
  exact⟨by omega,by omega⟩⟩
theorem Bhm{t}(ht:Tryz.prog.underlying t=some .bool)(hc:Tryz.prog.cellsOf t=1):Api Bool t :=
 ⟨hc,fun H enc W c cs x h _=>by
  obtain⟨b,a,_⟩:=DataW.trod_bool ht h
  exact⟨b,a⟩⟩
theorem Aed{t}(ht:Tryz.prog.underlying t=some .string)(hc:Tryz.prog.cellsOf t=1):Api ByteArray t :=
 ⟨hc,fun H enc W c cs x h hw=>by
  obtain⟨s,a,b,_⟩:=DataW.trod_string ht h
  refine⟨s,a,Axb ?_⟩
  have:=hw s.data.toList.length (by rw[b];simp[DataW.weights])
  simpa using this⟩
theorem Bcp{α:Type}{P:Nat→α→Prop}:∀n,(∀i,i<n→∃a,P i a)→∃xs:List α,xs.length=n∧∀i x,xs[i]?=some x→P i x
 | 0,_=>⟨[],rfl,fun i x h=>by cases h⟩
 | n+1,h=>by
  obtain⟨xs,h1,h2⟩:=Bcp n fun i hi=>h i (by omega)
  obtain⟨a,ha⟩:=h n (by omega)
  refine⟨xs++[a],by simp[h1],fun i x hx=>?_⟩
  rcases Tc i n with hlt|hge
  ·rw[Alt (by omega)]at hx;exact h2 i x hx
  ·have hi:i=n:=by
    have:=(Mq.1 hx).1
    simp only[lZ0,Atl]at this;omega
   subst hi
   rw[List.getElem?_append_right (by omega),h1,Aqu]at hx
   cases hx;exact ha
theorem Bqd{a:Addr}:a.add 0=a:=by simp[Addr.add]
theorem Aum{b off i}:(⟨b,off,none⟩:Addr).add i=⟨b,off+i,none⟩:=by
 unfold Addr.add;split
 ·rename_i h;subst h;rfl
 ·rfl
theorem Arh{W:World}{a k cs}(hk:1≤k)(h:W.cells? 0 a k=some cs):∃b off c t fz rest,a=⟨b,off,none⟩∧W.heap[b]?=some (.cells c t fz)∧c.toList.drop off=cs++rest∧cs.length=k:=by
 unfold World.cells? at h
 rw[if_pos (Hz _)]at h
 have hl:=mapM_some_length h
 rw[List.length_range]at hl
 have hg:∀j,j<k→W.cell? (a.add j)=cs[j]?:=fun j hj=>mapM_some_get h j j (by rw[Biy hj])
 obtain⟨b,off,f⟩:=a
 have d:=hg 0 hk
 rw[Bqd]at d
 obtain⟨v,hv⟩:∃v,cs[0]?=some v:=⟨_,Sr (by omega)⟩
 rw[hv]at d
 unfold World.cell? at d
 simp only at d
 cases hb:W.heap[b]? with
 | none=>rw[hb]at d;cases d
 | some o =>
  cases o with
  | cells c t fz =>
   rw[hb]at d
   simp only at d
   cases f with
   | some s=>simp at d
   | none =>
    refine⟨b,off,c,t,fz,(c.toList.drop off).drop k,rfl,hb,?_,hl⟩
    have e:(c.toList.drop off).take k=cs:=by
     apply Awg
     intro j
     rw[Agn]
     by_cases hj:j<k
     ·rw[if_pos hj,←hg j hj,Yz,Aum]
      unfold World.cell?
      simp only[hb]
      simp
     ·rw[if_neg hj,Yd (by omega)]
    rw[←e,Aip]
  | _=>rw[hb]at d;cases d
theorem Aay{H:Type}{P:Program}{e:TypeId}:∀{ds:List (DataW H)} {d:DataW H} {n:Nat},d∈ds→n∈d.weights P e→n∈DataW.weightsAll P e ds
 | [],_,_,h,_=>by cases h
 | d'::ds,d,n,h,hn=>by
  rw[DataW.weightsAll,Of]
  rcases Nc.1 h with rfl|h
  ·exact .inl hn
  ·exact .inr (Aay h hn)
theorem Sg{α}[Dat α]{t e}(ht:Tryz.prog.underlying t=some (.slice e))(hc:Tryz.prog.cellsOf t=1)(hb:1≤Tryz.prog.bytesOf e)(hk:1≤Dat.k α)(he:Api α e):Api (List α) t :=
 ⟨hc,fun H enc W K cs x h hw=>by
  rcases DataW.trod_slice ht h with⟨u,_⟩|⟨a,len,cap,q,rest,n,_,w,B,_,C,_,D,E,_,_⟩
  ·exact⟨[],_,u,none,0,0,rfl,rfl,by omega,Lb _,fun i x hx=>by cases hx⟩
  ·rw[B]at hw
   simp only[DataW.weights,ht]at hw
   have G:len<2^60:=by
    have:=hw _ mC
    simp only[Xp]at this
    refine Axb (Tl ?_ this)
    rw[D]
    exact Tl (Tl (Nat.le_add_right _ _) (Nat.le_of_eq (Ahr _).symm)) (Nat.mul_le_mul_left _ hb)
   obtain⟨xs,I,p⟩:=Bcp (P:=fun i (y:α)=>∃cs,W.cells? 0 (a.add (i*Tryz.prog.cellsOf e)) (Tryz.prog.cellsOf e)=some cs∧Dat.rep (roW W) cs y) len fun i hi=>by
    have d:=E i hi
    obtain⟨y,hy⟩:∃y,q[i]?=some y:=⟨_,Sr (by omega)⟩
    rw[hy,Option.bind_eq_some_iff]at d
    obtain⟨ci,f,g⟩:=d
    obtain⟨z,hz⟩:=he.2 H enc W n ci y g fun m hm=>hw m (lZ7 _ (Uf _ (Aay (Aai (lZ8 hy)) hm)))
    exact⟨z,ci,f,hz⟩
   refine⟨xs,_,w,some a,len,cap,rfl,I,G,C,fun i y hy=>?_⟩
   obtain⟨b',j,rfl⟩:∃b' j,a=⟨b',j,none⟩:=by
    have hi:=(Mq.1 hy).1
    obtain⟨l,J⟩:∃l,xs[0]?=some l:=⟨_,Sr (by omega)⟩
    obtain⟨ci,f,_⟩:=p 0 l J
    rw[he.1,Bcm,Bqd]at f
    obtain⟨b,off,_,_,_,_,d,_⟩:=Arh hk f
    exact⟨b,off,d⟩
   obtain⟨ci,f,g⟩:=p i y hy
   rw[he.1,Aum]at f
   obtain⟨b,off,c,t',fz,rs,d,F,v,_⟩:=Arh hk f
   simp only[Addr.mk.injEq,and_true]at d
   obtain⟨rfl,rfl⟩:=d
   exact⟨b',j,rfl,b',_,c,t',fz,ci,rs,rfl,Vz F,g,v⟩⟩
theorem Us(cs:List Value)(a k:Nat):cs.drop a=(cs.drop a).take k++cs.drop (a+k):=by rw[←Awi,Aip]
theorem Lz{H enc W n}{cs:List Value}{xs:List (DataW H×List MemPlace)}{fs t}(ht:Tryz.prog.underlying t=some (.struct fs))(hl:xs.length=fs.size)(h:∀(i:Nat) (f:Field),fs[i]?=some f→DataW.trod enc Tryz.prog W 0 (fun _=>true) true n f.type ((cs.drop f.offset).take (Tryz.prog.cellsOf f.type))=xs[i]?)(hw:∀m∈(DataW.agg (xs.map (·.1)):DataW H).weights Tryz.prog t,m≤reachBytes){α}[Dat α]{i ft off:Nat}{f}(hf:fs[i]?=some f)(h1:f.type=ft)(h2:f.offset=off)(hd:Api α ft):∃a:α,Dat.rep (roW W) ((cs.drop off).take (Dat.k α)) a:=by
 subst h1 h2
 have hi:=(Ape.1 hf).1
 obtain⟨y,hy⟩:∃y,xs[i]?=some y:=⟨_,Sr (by omega)⟩
 have b:=h i f hf
 rw[hy,hd.1]at b
 refine hd.2 H enc W n _ y b fun m hm=>hw m ?_
 simp only[DataW.weights,ht]
 exact DataW.weights_mem_each (j:=i) (t:=f.type) (d:=y.1) (by simp[Bbx,hf]) (by simp[hy]) m hm
theorem Bqg:Api Span 48:=⟨by kernel_rfl,fun H enc W f cs x h hw=>by
 obtain⟨xs,n,_,rfl,hcl,hl,hf⟩:=DataW.trod_struct Bxl h
 rw[show Tryz.prog.cellsOf 48=2 from by kernel_rfl]at hcl
 obtain⟨b,d⟩:=Lz (i:=0) Bxl hl hf hw rfl rfl (show _=0 from rfl) (Ys Bxr (by kernel_rfl))
 obtain⟨a,e⟩:=Lz (i:=1) Bxl hl hf hw rfl rfl (show _=1 from rfl) (Ys Bxr (by kernel_rfl))
 refine⟨⟨b,a⟩,?_⟩
 have c:cs=cs.drop 0:=rfl
 rw[c]
 exact⟨(cs.drop 0).take 1,cs.drop 1,(Us cs 0 1).trans (by rfl),d,(show Dat.rep (roW W) (cs.drop 1) a from by (have:=e;rw[Aad (by rw[lZ5,hcl];decide)]at this;exact this))⟩⟩
theorem Bvb:Api FField 51:=⟨by kernel_rfl,fun H enc W l cs x h hw=>by
 obtain⟨xs,n,_,rfl,hcl,hl,hf⟩:=DataW.trod_struct Bxf h
 rw[show Tryz.prog.cellsOf 51=5 from by kernel_rfl]at hcl
 obtain⟨b,f⟩:=Lz (i:=0) Bxf hl hf hw rfl rfl (show _=0 from rfl) (Aed Bwz (by kernel_rfl))
 obtain⟨c,g⟩:=Lz (i:=1) Bxf hl hf hw rfl rfl (show _=1 from rfl) (Ys Bxr (by kernel_rfl))
 obtain⟨d,j⟩:=Lz (i:=2) Bxf hl hf hw rfl rfl (show _=2 from rfl) Bqg
 obtain⟨a,k⟩:=Lz (i:=3) Bxf hl hf hw rfl rfl (show _=4 from rfl) (Sg Bxi (by kernel_rfl) (Qz (by kernel_rfl)) (by decide) Bqg)
 refine⟨⟨b,c,d,a⟩,?_⟩
 have e:cs=cs.drop 0:=rfl
 rw[e]
 exact⟨(cs.drop 0).take 1,cs.drop 1,(Us cs 0 1).trans (by rfl),f,⟨(cs.drop 1).take 1,cs.drop 2,(Us cs 1 1).trans (by rfl),g,⟨(cs.drop 2).take 2,cs.drop 4,(Us cs 2 2).trans (by rfl),j,(show Dat.rep (roW W) (cs.drop 4) a from by (have:=k;rw[Aad (by rw[lZ5,hcl];decide)]at this;exact this))⟩⟩⟩⟩
theorem Bva:Api Sale 54:=⟨by kernel_rfl,fun H enc W f cs x h hw=>by
 obtain⟨xs,n,_,rfl,hcl,hl,hf⟩:=DataW.trod_struct Bxm h
 rw[show Tryz.prog.cellsOf 54=2 from by kernel_rfl]at hcl
 obtain⟨b,d⟩:=Lz (i:=0) Bxm hl hf hw rfl rfl (show _=0 from rfl) (Ys Bxr (by kernel_rfl))
 obtain⟨a,e⟩:=Lz (i:=1) Bxm hl hf hw rfl rfl (show _=1 from rfl) (Sg Bxj (by kernel_rfl) (Qz (by kernel_rfl)) (by decide) (Ys Bxr (by kernel_rfl)))
 refine⟨⟨b,a⟩,?_⟩
 have c:cs=cs.drop 0:=rfl
 rw[c]
 exact⟨(cs.drop 0).take 1,cs.drop 1,(Us cs 0 1).trans (by rfl),d,(show Dat.rep (roW W) (cs.drop 1) a from by (have:=e;rw[Aad (by rw[lZ5,hcl];decide)]at this;exact this))⟩⟩
theorem Buy:Api Market 29:=⟨by kernel_rfl,fun H enc W l cs x h hw=>by
 obtain⟨xs,n,_,rfl,hcl,hl,hf⟩:=DataW.trod_struct Bxa h
 rw[show Tryz.prog.cellsOf 29=4 from by kernel_rfl]at hcl
 obtain⟨b,f⟩:=Lz (i:=0) Bxa hl hf hw rfl rfl (show _=0 from rfl) (Sg Bwy (by kernel_rfl) (Qz (by kernel_rfl)) (by decide) (Aed Bwz (by kernel_rfl)))
 obtain⟨c,g⟩:=Lz (i:=1) Bxa hl hf hw rfl rfl (show _=1 from rfl) (Sg Bwy (by kernel_rfl) (Qz (by kernel_rfl)) (by decide) (Aed Bwz (by kernel_rfl)))
 obtain⟨d,j⟩:=Lz (i:=2) Bxa hl hf hw rfl rfl (show _=2 from rfl) (Sg Bxn (by kernel_rfl) (Qz (by kernel_rfl)) (by decide) Bvb)
 obtain⟨a,k⟩:=Lz (i:=3) Bxa hl hf hw rfl rfl (show _=3 from rfl) (Sg Bxk (by kernel_rfl) (Qz (by kernel_rfl)) (by decide) Bva)
 refine⟨⟨b,c,d,a⟩,?_⟩
 have e:cs=cs.drop 0:=rfl
 rw[e]
 exact⟨(cs.drop 0).take 1,cs.drop 1,(Us cs 0 1).trans (by rfl),f,⟨(cs.drop 1).take 1,cs.drop 2,(Us cs 1 1).trans (by rfl),g,⟨(cs.drop 2).take 1,cs.drop 3,(Us cs 2 1).trans (by rfl),j,(show Dat.rep (roW W) (cs.drop 3) a from by (have:=k;rw[Aad (by rw[lZ5,hcl];decide)]at this;exact this))⟩⟩⟩⟩
theorem Bru:Api FTest 46:=⟨by kernel_rfl,fun H enc W j cs x h hw=>by
 obtain⟨xs,n,_,rfl,hcl,hl,hf⟩:=DataW.trod_struct Bxh h
 rw[show Tryz.prog.cellsOf 46=3 from by kernel_rfl]at hcl
 obtain⟨b,e⟩:=Lz (i:=0) Bxh hl hf hw rfl rfl (show _=0 from rfl) (Aed Bwz (by kernel_rfl))
 obtain⟨c,f⟩:=Lz (i:=1) Bxh hl hf hw rfl rfl (show _=1 from rfl) (Sg Bxq (by kernel_rfl) (Qz (by kernel_rfl)) (by decide) (Ys Tryz.underlying75 (by kernel_rfl)))
 obtain⟨a,g⟩:=Lz (i:=2) Bxh hl hf hw rfl rfl (show _=2 from rfl) (Bhm Byl (by kernel_rfl))
 refine⟨⟨b,c,a⟩,?_⟩
 have d:cs=cs.drop 0:=rfl
 rw[d]
 exact⟨(cs.drop 0).take 1,cs.drop 1,(Us cs 0 1).trans (by rfl),e,⟨(cs.drop 1).take 1,cs.drop 2,(Us cs 1 1).trans (by rfl),f,(show Dat.rep (roW W) (cs.drop 2) a from by (have:=g;rw[Aad (by rw[lZ5,hcl];decide)]at this;exact this))⟩⟩⟩
theorem Buz:Api Lab 25:=⟨by kernel_rfl,fun H enc W j cs x h hw=>by
 obtain⟨xs,n,_,rfl,hcl,hl,hf⟩:=DataW.trod_struct Bxd h
 rw[show Tryz.prog.cellsOf 25=3 from by kernel_rfl]at hcl
 obtain⟨b,e⟩:=Lz (i:=0) Bxd hl hf hw rfl rfl (show _=0 from rfl) (Sg Bwy (by kernel_rfl) (Qz (by kernel_rfl)) (by decide) (Aed Bwz (by kernel_rfl)))
 obtain⟨c,f⟩:=Lz (i:=1) Bxd hl hf hw rfl rfl (show _=1 from rfl) (Ys Bxr (by kernel_rfl))
 obtain⟨a,g⟩:=Lz (i:=2) Bxd hl hf hw rfl rfl (show _=2 from rfl) (Sg Bxg (by kernel_rfl) (Qz (by kernel_rfl)) (by decide) Bru)
 refine⟨⟨b,c,a⟩,?_⟩
 have d:cs=cs.drop 0:=rfl
 rw[d]
 exact⟨(cs.drop 0).take 1,cs.drop 1,(Us cs 0 1).trans (by rfl),e,⟨(cs.drop 1).take 1,cs.drop 2,(Us cs 1 1).trans (by rfl),f,(show Dat.rep (roW W) (cs.drop 2) a from by (have:=g;rw[Aad (by rw[lZ5,hcl];decide)]at this;exact this))⟩⟩⟩
end
section
open Go Go.RowKit Go.Conc
/-- A function's body,walked from what it is given. -/
def Agd(C:Ctx)(f:FuncId)(r:Nat)(args:List Value)(ρ:Ro)(σ:Own)(R:Value→Ro→Own→Prop):Prop :=
 ∃fn c,C.P.funcs[f]?=some fn∧fn.body=some c∧fn.results = #[.tmp r]∧args.length≤fn.ntmps ∧
  ∀Q:Hu,(∀e ρ' σ',R (e r) ρ' σ'→Q .ret e [] ρ' σ')→(∀e ρ' σ',R (e r) ρ' σ'→Q .normal e [] ρ' σ')→WpC C ⟨f,.normal,none⟩ fn.ntmps c Q (Pn args) [] ρ σ
theorem Bmi{C f fn c n r args ρ σ R}(hf:C.P.funcs[f]?=some fn)(hc:fn.body=some c)(hn:fn.ntmps=n)(ha:Nat.ble args.length n=true)(hr:fn.results = #[.tmp r])(h:∀Q:Hu,(∀e ρ' σ',R (e r) ρ' σ'→Q .ret e [] ρ' σ')→(∀e ρ' σ',R (e r) ρ' σ'→Q .normal e [] ρ' σ')→WpC C ⟨f,.normal,none⟩ n c Q (Pn args) [] ρ σ):Agd C f r args ρ σ R :=
 ⟨fn,c,hf,hc,hr,hn ▸ Qz ha,hn ▸ h⟩
end
section
open Go Go.WideShapes Go.ChangeShapes Go.RowKit Go.Conc
section
variable{H:Type}{enc:TypeId×Value→H}{W:World}{r:Reach}{base t:Nat}{v:Value}{d:DataW H}{p:List MemPlace}
theorem Ajn{α}[Dat α]{fs}(hd:Api α t)(ha:Dat.agg α=true)(ht:Tryz.prog.underlying t=some (.struct fs))(hv:Value.okWide Tryz.prog W r base t v)(h:DataW.Trod enc Tryz.prog W 0 (fun _=>true) true t v d p)(hw:∀n∈d.weights Tryz.prog t,n≤reachBytes):∃a:α,Val (roW W) v a:=by
 obtain⟨cs,rfl,_⟩:=okWide_struct ht hv
 obtain⟨b,hf⟩:=h
 obtain⟨a,c⟩:=hd.2 H enc W b cs.toList (d,p) hf hw
 refine⟨a,_,c,?_⟩
 rw[ha]
 show _=Value.agg cs.toList.toArray
 simp
end
theorem Anj{H:Type}{P:Program}{ts:List TypeId}{ds:List (DataW H)}(h:(DataW.weightsEach P ts ds).all (·≤reachBytes)=true){j:Nat}{t:TypeId}{d:DataW H}(ht:ts[j]?=some t)(hd:ds[j]?=some d):∀n∈d.weights P t,n≤reachBytes:=fun n hn=>by
 have:=Tk.1 h _ (DataW.weights_mem_each ht hd n hn)
 simpa using this
def Bql:List (String×DataW Unit):=[("crocus/fake.can",Rows.laid_crocus_fake_can),("crocus/fake.over",Rows.laid_crocus_fake_over)]
theorem Zw{P}{W:World}{n g cs}(hg:P.globalNamed n=some g)(h:W.var? P n=some cs):∃t fz,W.heap[g]?=some (.cells cs t fz):=by
 simp only[World.var?,hg,Bjh]at h
 split at h
 ·rename_i cs' t fz hh
  cases h
  exact⟨t,fz,hh⟩
 ·cases h
theorem gOver:Tryz.prog.globalNamed "crocus/fake.over" = some 2:=by kernel_rfl
theorem gCan:Tryz.prog.globalNamed "crocus/fake.can" = some 3:=by kernel_rfl
theorem tOver:(Tryz.prog.globals[2]?).map (·.type)=some 134:=by kernel_rfl
theorem tCan:(Tryz.prog.globals[3]?).map (·.type)=some 199:=by kernel_rfl
theorem Xc{W}(h:laidMetH Tryz.prog Bql W):Glob (roW W):=by
 have h':laidMet Tryz.prog [("crocus/fake.over",Rows.laid_crocus_fake_over)] W∧handlesMet Tryz.prog [("crocus/fake.can",Rows.laid_crocus_fake_can)] W:=h
 refine⟨?_,?_⟩
 ·obtain⟨ps,⟨g,t,cs,x,p,q,hg,ht,hv,hd,_,_⟩,_,_⟩:=h'.1
  obtain rfl:=Option.some.inj (gOver.symm.trans hg)
  obtain rfl:=Option.some.inj (tOver.symm.trans ht)
  obtain⟨t',fz,hh⟩:=Zw hg hv
  obtain⟨xs,n,_,j,hcl,hl,hf⟩:=DataW.trod_struct Tryz.underlying134 hd
  have c:xs.map (·.1)=[.lit (.int .i64 0),.lit (.int .i64 0)]:=by
   have:=congrArg Prod.fst j
   simp only[Rows.laid_crocus_fake_over,DataW.agg.injEq]at this
   exact this.symm
  rw[show Tryz.prog.cellsOf 134=2 from by kernel_rfl]at hcl
  obtain⟨a,b,hab⟩:∃a b,cs.toList=[a,b]:=by
   match hm:cs.toList,hcl with
   | [a,b],_=>exact⟨a,b,rfl⟩
  have f0:DataW.trod (fun _=>()) Tryz.prog W 0 (fun _=>true) false n 124 ((cs.toList.drop 0).take (Tryz.prog.cellsOf 124))=xs[0]?:=hf 0 _ rfl
  have e:DataW.trod (fun _=>()) Tryz.prog W 0 (fun _=>true) false n 3 ((cs.toList.drop 1).take (Tryz.prog.cellsOf 3))=xs[1]?:=hf 1 _ rfl
  obtain⟨f,i,hx⟩:∃f i,xs=[f,i]:=by
   have:xs.length=2:=hl
   match hm:xs,this with
   | [a,b],_=>exact⟨a,b,rfl⟩
  subst hx
  rw[hab]at f0 e
  rw[show Tryz.prog.cellsOf 124=1 from by kernel_rfl]at f0
  rw[show Tryz.prog.cellsOf 3=1 from by kernel_rfl]at e
  simp only[Agl,Aem,Air,Bey,List.take_succ_cons,Azy]at f0 e
  obtain⟨z,k,u,_⟩:=DataW.trod_int Tryz.underlying124 f0
  obtain⟨B,l,v,_⟩:=DataW.trod_int Bxr e
  subst u v
  simp only[Qc,List.map_nil,List.cons.injEq,DataW.lit.injEq,Lit.int.injEq,true_and,and_true]at c
  obtain⟨rfl,rfl⟩:=c
  simp only[List.cons.injEq,and_true]at k l
  subst k l
  have hcs:cs = #[.int .i64 0,.int .i64 0]:=by apply Array.ext';exact hab
  rw[hcs]at hh
  exact⟨t',fz,Vz hh⟩
 ·obtain⟨g,t,cs,x,p,hg,ht,hv,hd⟩:=h.funcs (n:= "crocus/fake.can") (d:=.agg [.iface "func" (.lit (.string [40,99,114,111,99,117,115,47,102,97,107,101,46,112,114,111,98,101,41,46,109,105,115,115,101,115])),.iface "func" (.lit (.string [40,99,114,111,99,117,115,47,102,97,107,101,46,112,114,111,98,101,41,46,102,105,110,100,115]))]) mC
  obtain rfl:=Option.some.inj (gCan.symm.trans hg)
  obtain rfl:=Option.some.inj (tCan.symm.trans ht)
  obtain⟨t',fz,hh⟩:=Zw hg hv
  obtain⟨xs,m,_,j,hcl,hl,hf⟩:=DataW.trod_array Tryz.underlying199 hd
  have c:xs.map (·.1)=[.held [40,99,114,111,99,117,115,47,102,97,107,101,46,112,114,111,98,101,41,46,109,105,115,115,101,115],.held [40,99,114,111,99,117,115,47,102,97,107,101,46,112,114,111,98,101,41,46,102,105,110,100,115]]:=by
   have:=congrArg Prod.fst j
   simp only[DataW.funcsOut,DataW.funcsOutAll]at this
   have y:=(DataW.agg.inj this).symm
   simpa using y
  rw[show Tryz.prog.cellsOf 199=2 from by kernel_rfl]at hcl
  obtain⟨a,b,hab⟩:∃a b,cs.toList=[a,b]:=by
   match hm:cs.toList,hcl with
   | [a,b],_=>exact⟨a,b,rfl⟩
  have f0:=hf 0 (by decide)
  have e:=hf 1 (by decide)
  obtain⟨f,i,hx⟩:∃f i,xs=[f,i]:=by
   match hm:xs,hl with
   | [a,b],_=>exact⟨a,b,rfl⟩
  subst hx
  rw[hab,show Tryz.prog.cellsOf 198=1 from by kernel_rfl]at f0 e
  simp only[Bcm,Ahs,Agl,Aem,Air,Bey,List.take_succ_cons,Azy]at f0 e
  simp only[Qc,List.map_nil,List.cons.injEq,and_true]at c
  obtain⟨u,C⟩:=f
  obtain⟨v,D⟩:=i
  obtain⟨w,c⟩:=c
  simp only at w c
  subst w c
  obtain rfl:=func_of_trod (f0:=250) Tryz.underlying198 (by kernel_rfl) f0
  obtain rfl:=func_of_trod (f0:=227) Tryz.underlying198 (by kernel_rfl) e
  have hcs:cs = #[.func (.func 250) #[] #[],.func (.func 227) #[] #[]]:=by apply Array.ext';exact hab
  rw[hcs]at hh
  exact⟨t',fz,Vz hh⟩
end
section
open Go Go.WideShapes Go.ChangeShapes Go.RowKit Go.Conc
theorem Art:ownKnob Tryz.prog.godebug=none:=by kernel_rfl
theorem Aid:laidOutB Tryz.prog=true:=by kernel_rfl
theorem Sb{H:Type}{enc:TypeId×Value→H}{P:Program}{w:World}{base:Nat}{spare:Nat→Bool}{held:Bool}:∀{ts:List TypeId} {vs:List Value} {ds:List (DataW H)} {ps:List MemPlace},DataW.TrodAll enc P w base spare held ts vs ds ps→vs.length=ts.length∧ds.length=ts.length
 | [],[],[],_,_=>⟨rfl,rfl⟩
 | t::ts,v::vs,d::ds,_,⟨p,q,_,h,_⟩=>by have:=Sb h;simp[this]
 | [],[],_::_,_,h=>h.elim
 | [],_::_,_,_,h=>h.elim
 | _::_,[],_,_,h=>h.elim
 | _::_,_::_,[],_,h=>h.elim
theorem Oo{H:Type}{enc:TypeId×Value→H}{W W':World}(hb:Below W.heap.size W W'):∀{ts:List TypeId} {vs:List Value} {ds:List (DataW H)} {ps:List MemPlace},(∀t∈ts,Tryz.prog.readableRec t=true∧t<Tryz.prog.types.size)→(∀x∈ps,x.block<W.heap.size) →
  DataW.TrodAll enc Tryz.prog W 0 (fun _=>true) true ts vs ds ps→DataW.TrodAll enc Tryz.prog W' 0 (fun b=>decide (b<W.heap.size)) true ts vs ds ps
 | [],[],[],_,_,_,h=>h
 | t::ts,v::vs,d::ds,_,ht,hl,⟨p,q,h1,h2,he⟩=>⟨p,q,Below.trod Aid (ht t mC).1 (ht t mC).2 h1 hb fun x hx=>hl x (he ▸ Uf _ hx),Oo hb (fun t h=>ht t (lZ7 _ h)) (fun x hx=>hl x (he ▸ Pz _ hx)) h2,he⟩
 | [],[],_::_,_,_,_,h=>h.elim
 | [],_::_,_,_,_,_,h=>h.elim
 | _::_,[],_,_,_,_,h=>h.elim
 | _::_,_::_,[],_,_,_,h=>h.elim
/-- A tied card without a companion,of a function that starts goroutines. -/
theorem Bgg(Lk:Looks){p s c}(kinds:List LaidKind)(tests:Bool)(har:Bool×String)(lk:Bool)(hc:c.holds p s)(hw:c.wfByText s=true)(htie:c.laidByTextAt Lk p kinds tests)(hst:c.start = .entering)(hnb:c.noBlocks=false∧c.again=false)(hm:p.checked.prog.mainIs=some (har.1,har.2.toList))(hn:(!har.1&&har.2.isEmpty && !lk)=false)(hl:∀f fn,p.checked.prog.funcNamed c.func=some f→p.checked.prog.funcs[f]?=some fn→lk=p.checked.prog.looks []∧∀(j:Nat) t,fn.params[j]?=some t→p.checked.prog.wantsStandIn t=false)(hg:true=c.goesBy p.checked.prog):
  Claim7.holds p (.plain s) {stood:={row:=c,standIns:=[],harness:=har,looks:=lk},kinds:=[],alts:=[],goes:=true,laidByText:=true,laidKinds:=kinds,laidTests:=tests,laidLooks:=Lk}:=by
 have a:∀r:OpenClaim,Claim7.isSixth {stood:={row:=r,standIns:=[],harness:=har,looks:=lk},kinds:=[]}=false:=fun r=>by simpa[Claim7.isSixth]using hn
 exact⟨Claim7.tied_new_at Lk kinds tests (Claim7.new_of_sixth hc har lk hst hnb hm (a c) hl) hw,(fun D hD=>by cases hD),htie,(fun h=>by cases h),hg⟩
end
section
open Go
def inR(n low high:Int):Bool:=decide (low≤n)&&decide (n≤high)
theorem Fz{n low high}:inR n low high=true↔low≤n∧n≤high:=by simp[inR]
theorem Xb{n low high}:inR n low high=false↔n<low∨high<n:=by
 cases h:inR n low high
 ·have:¬(low≤n∧n≤high):=fun h'=>by rw[Fz.2 h']at h;cases h
  simp only[true_iff];omega
 ·have:=Fz.1 h
  simp only[Bool.true_eq_false,false_iff];omega
def Ef(x:Span)(low high:Int):Bool:=decide (low≤x.low)&&decide (x.low≤x.high)&&decide (x.high≤high)
theorem Eg{p:Nat→Prop}{i}(h:∀j,j<i→p j)(h':p i):∀j,j<i+1→p j:=fun j hj=>by
 rcases Tc j i with hlt|hge
 ·exact h j hlt
 ·obtain rfl:j=i:=by omega
  exact h'
/-- A byte that no name has. -/
def Ov(c:Int):Bool:=(decide (c<97)||decide (c>122))&&(decide (c<48)||decide (c>57))&&(c != 45)
def Alm(s:ByteArray)(j:Nat):Bool:=match s[j]? with|some c=>!Ov ((c.toNat:Nat):Int)|none=>true
def Qb(s:ByteArray):Bool:=match s[0]? with|some c=>!decide (((c.toNat:Nat):Int)<97) && !decide (((c.toNat:Nat):Int)>122)|none=>true
def Hg(s:ByteArray):Bool:=inR s.size 1 14&&Qb s&&(List.range s.size).all (Alm s)
theorem Bcu{s}:(List.range s.size).all (Alm s)=true↔∀j,j<s.size→Alm s j=true:=by simp
theorem Bol{s j}(h:j<s.size)(h0:Alm s j=false):(List.range s.size).all (Alm s)=false:=by
 cases hh:(List.range s.size).all (Alm s) with
 | false=>rfl
 | true=>rw[Bcu.1 hh j h]at h0;cases h0
/-- The first index of a property. -/
def Cl(n:Nat)(p:Nat→Bool):Option Nat:=(List.range n).find? p
theorem Fh{n i p}(h:∀j,j<i→p j=false)(hi:i<n)(hp:p i=true):Cl n p=some i:=by
 unfold Cl
 rw[List.find?_range_eq_some]
 exact⟨hp,by simpa using hi,fun j hj=>by simp[h j hj]⟩
theorem Ep{n p}(h:∀j,j<n→p j=false):Cl n p=none:=by
 unfold Cl
 rw[List.find?_eq_none]
 intro j hj
 simp[h j (by simpa using hj)]
theorem Ft{n p}:(∃i,i<n∧p i=true∧(∀j,j<i→p j=false)∧Cl n p=some i)∨((∀j,j<n→p j=false)∧Cl n p=none):=by
 cases h:Cl n p with
 | some i =>
  unfold Cl at h
  rw[List.find?_range_eq_some]at h
  exact .inl ⟨i,by simpa using h.2.1,h.1,fun j hj=>by simpa using h.2.2 j hj,rfl⟩
 | none =>
  unfold Cl at h
  rw[List.find?_eq_none]at h
  exact .inr ⟨fun j hj=>by simpa using h j (by simpa using hj),rfl⟩
/-- The first fault of several. -/
def Hl(n:Nat)(f:Nat→Int):Int:=match Cl n (fun j=>f j != 0) with|some i=>f i|none=>0
theorem Db{n i f}(h:∀j,j<i→f j=0)(hi:i<n){v}(hf:f i=v)(hv:v≠0):Hl n f=v:=by
 subst hf
 unfold Hl
 rw[Fh (i:=i) (fun j hj=>by simp[h j hj]) hi (by simpa using hv)]
theorem Fb{n f}(h:∀j,j<n→f j=0):Hl n f=0:=by
 unfold Hl
 rw[Ep fun j hj=>by simp[h j hj]]
theorem Fx{n f}:Hl n f=0↔∀j,j<n→f j=0:=by
 refine⟨fun h=>?_,Fb⟩
 rcases Ft (n:=n) (p:=fun j=>f j != 0) with⟨i,hi,hp,hlt,he⟩|⟨a,_⟩
 ·unfold Hl at h
  rw[he]at h
  exact absurd h (by simpa using hp)
 ·exact fun j hj=>by simpa using a j hj
def Xi(l:List ByteArray)(s:ByteArray)(j:Nat):Bool:=match l[j]? with|some x=>x.toList==s.toList|none=>false
def findI(l:List ByteArray)(s:ByteArray):Int:=match Cl l.length (Xi l s) with|some i=>(i:Int)|none=>-1
def Nh(l:List ByteArray)(i:Nat):Int:=match l[i]? with|some x=>if Hg x then (if findI (l.take i) x≥0 then 5 else 0) else 4|none=>0
def Dd(l:List ByteArray)(most:Int):Int:=if (l.length:Int)>most then 2 else Hl l.length (Nh l)
def orF(a b:Int):Int:=if a=0 then b else a
theorem Gr{a b}(h:a=0):orF a b=b:=by simp[orF,h]
theorem Ry{a b}(h:a≠0):orF a b=a:=by simp[orF,h]
theorem Jx{a b}:orF a b=0↔a=0∧b=0:=by
 unfold orF
 split
 ·rename_i h;simp[h]
 ·rename_i h;simp[h]
def Nn(l:List Span)(i:Nat):Int:=match l[i]? with|some x=>if Ef x 0 1000 then 0 else 1|none=>0
def Fm(l:List Span)(many:Int):Int:=if (l.length:Int)=many then Hl l.length (Nn l) else 2
/-- Another field before this one has its name. -/
def Mk(m:Market)(s:ByteArray)(k:Nat):Bool:=match m.fields[k]? with|some x=>x.name.toList==s.toList|none=>false
def fieldAt(m:Market)(i:Nat):Int:=match m.fields[i]? with
 | none=>0
 | some x=>if Hg x.name then (if (Cl i (Mk m x.name)).isSome then 5 else if inR x.house 0 ((m.houses.length:Int)-1) then (if Ef x.grows 0 1000000 then Fm x.marks (m.marks.length:Int) else 1) else 6) else 4
def Gt(m:Market)(s:Sale)(k:Nat):Int:=match s.sellers[k]? with
 | none=>0
 | some h=>if inR h 0 ((m.houses.length:Int)-1) then (match (if 0<k then s.sellers[k-1]? else none) with|some h'=>if h≤h' then 7 else 0|none=>0) else 6
def Jb(m:Market)(i:Nat):Int:=match m.sales[i]? with
 | none=>0
 | some s=>if inR s.grams 0 1000000 then (if (s.sellers.length:Int)=0 then 2 else Hl s.sellers.length (Gt m s)) else 1
def Ew(m:Market):Int:=if (m.fields.length:Int)>6 then 2 else Hl m.fields.length (fieldAt m)
def Jc(m:Market):Int:=if (m.sales.length:Int)>8 then 2 else Hl m.sales.length (Jb m)
def Cf(m:Market):Int:=orF (Dd m.houses 5) (orF (Dd m.marks 4) (orF (Ew m) (Jc m)))
theorem Bsl{n low high}(h:inR n low high=true):low≤n∧n≤high:=Fz.1 h
theorem Re{x low high}:Ef x low high=true↔low≤x.low∧x.low≤x.high∧x.high≤high:=by simp[Ef,and_assoc]
def Qt(x:Span):Prop:=0≤x.low∧x.low≤x.high∧x.high≤1000
theorem Zj{l many}:Fm l many=0↔(l.length:Int)=many∧∀(i:Nat) (x:Span),l[i]?=some x→Qt x:=by
 unfold Fm
 split
 ·rename_i h
  simp only[Fx,h,true_and]
  refine⟨fun h' i x hx=>?_,fun h' j hj=>?_⟩
  ·have a:=h' i (Mq.1 hx).1
   simp only[Nn,hx]at a
   split at a
   ·rename_i h2;exact Re.1 h2
   ·cases a
  ·obtain⟨x,hx⟩:∃x,l[j]?=some x:=⟨_,Sr hj⟩
   simp only[Nn,hx]
   rw[if_pos (Re.2 (h' j x hx))]
 ·rename_i h;simp[h]
/-- A valid market,told without codes. -/
structure MarketOk(m:Market):Prop where
 houses:Dd m.houses 5=0
 marks:Dd m.marks 4=0
 nfields:m.fields.length≤6
 nsales:m.sales.length≤8
 field:∀(i:Nat) (x:FField),m.fields[i]?=some x→Hg x.name=true∧(∀k,k<i→Mk m x.name k=false)∧(0≤x.house∧x.house≤(m.houses.length:Int)-1)∧(0≤x.grows.low∧x.grows.low≤x.grows.high∧x.grows.high≤1000000)∧x.marks.length=m.marks.length∧∀(i:Nat) (y:Span),x.marks[i]?=some y→Qt y
 sale:∀(i:Nat) (s:Sale),m.sales[i]?=some s→(0≤s.grams∧s.grams≤1000000)∧s.sellers≠[]∧(∀(k:Nat) (h:Int),s.sellers[k]?=some h→0≤h∧h≤(m.houses.length:Int)-1)∧∀(k:Nat) (h h':Int),s.sellers[k]?=some h→s.sellers[k+1]?=some h'→h<h'
theorem Fs{n p}:(Cl n p).isSome=false↔∀j,j<n→p j=false:=by
 rcases Ft (n:=n) (p:=p) with⟨i,hi,hp,_,he⟩|⟨a,he⟩
 ·rw[he];simp only[Option.isSome_some,Bool.true_eq_false,false_iff]
  exact fun h=>by rw[h i hi]at hp;cases hp
 ·rw[he];simp only[Option.isSome_none,true_iff];exact a
theorem Ua{l n}(h:Dd l n=0):(l.length:Int)≤n:=by
 unfold Dd at h
 split at h
 ·cases h
 ·omega
theorem Rg{m}(h:Cf m=0):MarketOk m:=by
 unfold Cf at h
 simp only[Jx]at h
 obtain⟨g,j,c,d⟩:=h
 unfold Ew at c
 unfold Jc at d
 split at c
 ·cases c
 rename_i hn3
 split at d
 ·cases d
 rename_i hn4
 rw[Fx]at c d
 refine⟨g,j,by omega,by omega,fun i x hx=>?_,fun i s hs=>?_⟩
 ·have a:=c i (Mq.1 hx).1
  simp only[fieldAt,hx]at a
  split at a
  ·rename_i ha
   split at a
   ·cases a
   rename_i hb
   split at a
   ·rename_i hc
    split at a
    ·rename_i hd
     rw[Zj]at a
     exact⟨ha,Fs.1 (by simpa using hb),Fz.1 hc,Re.1 hd,by omega,a.2⟩
    ·cases a
   ·cases a
  ·cases a
 ·have a:=d i (Mq.1 hs).1
  simp only[Jb,hs]at a
  split at a
  ·rename_i ha
   split at a
   ·cases a
   rename_i hb
   rw[Fx]at a
   have f:∀k h,s.sellers[k]?=some h→inR h 0 ((m.houses.length:Int)-1)=true∧∀h',(if 0<k then s.sellers[k-1]? else none)=some h'→h'<h:=fun k h hk=>by
    have b:=a k (Mq.1 hk).1
    simp only[Gt,hk]at b
    split at b
    ·rename_i hc
     refine⟨hc,fun h' hh'=>?_⟩
     rw[hh']at b
     simp only at b
     split at b
     ·cases b
     ·omega
    ·cases b
   refine⟨Fz.1 ha,fun e=>hb (by rw[e];rfl),fun k h hk=>Fz.1 (f k h hk).1,fun k h h' hk hk'=>(f (k+1) h' hk').2 h ?_⟩
   rw[if_pos (by omega)];exact hk
  ·cases a
theorem Aif{α:Type}[DecidableEq α]{a b:List α}(hl:a.length=b.length)(h:∀i,i<a.length→a[i]?=b[i]?):a=b:=by
 apply Awg
 intro i
 rcases Tc i a.length with hi|hi
 ·exact h i hi
 ·rw[Yd hi,Yd (by omega)]
def atP{α:Type}(l:List α)(p:α→Bool)(i:Nat):Bool:=match l[i]? with|some x=>p x|none=>false
def Oi{α:Type}(l:List α)(p:α→Bool):Int:=match Cl l.length (atP l p) with|some i=>(i:Int)|none=>-1
theorem Yq{α:Type}{l:List α}{p:α→Bool}:decide (Oi l p≥0)=l.any p:=by
 rw[Azw,decide_eq_true_eq,Bfb]
 unfold Oi
 rcases Ft (n:=l.length) (p:=atP l p) with⟨i,hi,hp,_,he⟩|⟨a,he⟩
 ·rw[he]
  simp only[ge_iff_le,Bez,true_iff]
  unfold atP at hp
  cases hx:l[i]? with
  | none=>rw[hx]at hp;cases hp
  | some x=>rw[hx]at hp;exact⟨x,lZ8 hx,hp⟩
 ·rw[he]
  constructor
  ·intro h;simp at h
  ·rintro⟨x,hx,hs⟩
   obtain⟨i,hi⟩:=Bew hx
   have:=a i (Mq.1 hi).1
   unfold atP at this
   simp only[hi,hs]at this
   cases this
def inL(l:List ByteArray)(k:ByteArray):Bool:=l.any fun x=>k.toList==x.toList
theorem Tq{l:List ByteArray}{i a}(h:l[i]?=some a)(k:ByteArray):(k.toList==a.toList||inL (l.take i) k)=inL (l.take (i+1)) k:=by
 unfold inL
 rw[Awa,h,List.any_append]
 simp[Bool.or_comm]
theorem Yl{l s}:findI l s≥0↔inL l s=true:=by
 unfold findI inL
 rcases Ft (n:=l.length) (p:=Xi l s) with⟨i,hi,hp,_,he⟩|⟨a,he⟩
 ·rw[he]
  simp only[ge_iff_le,Bez,true_iff,Bfb]
  unfold Xi at hp
  cases hx:l[i]? with
  | none=>rw[hx]at hp;cases hp
  | some x =>
   rw[hx]at hp
   exact⟨x,lZ8 hx,by rw[eq_of_beq hp];simp⟩
 ·rw[he]
  simp only[ge_iff_le,Bfb]
  constructor
  ·intro h;omega
  ·rintro⟨x,hx,hs⟩
   obtain⟨i,hi⟩:=Bew hx
   have:=a i (Mq.1 hi).1
   unfold Xi at this
   rw[hi,eq_of_beq hs]at this
   simp at this
theorem Ail{l i a}(h:l[i]?=some a)(hn:Hg a=false):Nh l i=4:=by simp[Nh,h,hn]
theorem Aim{l i a}(h:l[i]?=some a)(hn:Hg a=true)(hp:inL (l.take i) a=true):Nh l i=5:=by
 simp only[Nh,h,hn,if_true];rw[if_pos (Yl.2 hp)]
theorem Aik{l i a}(h:l[i]?=some a)(hn:Hg a=true)(hp:inL (l.take i) a=false):Nh l i=0:=by
 simp only[Nh,h,hn,if_true]
 rw[if_neg (fun h'=>by rw[Yl.1 h']at hp;cases hp)]
/-- The bytes of a name. -/
theorem Akl{s}:(s.data.toList.any fun c=>Ov ((c.toNat:Nat):Int)) = !(List.range s.size).all (Alm s):=by
 rw[Azw]
 simp only[Bfb,Bool.not_eq_true',List.all_eq_false,Apo]
 have a:∀i (h:i<s.size),s[i]?=some (s.data[i]'h):=fun i h=>by
  rw[getElem?_pos s i h];rfl
 constructor
 ·rintro⟨c,hc,hb⟩
  obtain⟨i,hi,rfl⟩:=Biz hc
  have hi':i<s.size:=by simpa using hi
  refine⟨i,hi',?_⟩
  simp only[Alm,a i hi']
  simpa using hb
 ·rintro⟨i,hi,hb⟩
  refine⟨s.data[i]'hi,by simp,?_⟩
  simp only[Alm,a i hi]at hb
  simpa using hb
end
section
open Go
variable{mn:Bool}{X:Frame→List Frame→Ro→Own→Cy→Prop}{ρ:Ro}{σ:Own}
theorem Jl{n low high}:CallsH (CX mn X) 80 #[iV n,iV low,iV high] ρ σ (rP ρ σ (.bool (inR n low high))):=by
 refine Bq 15 [6] Bys rfl fun Q b h=>w_q rfl rfl fun f d=>Au bF (Arx rfl rfl d fun g c=>Av (iV low) (Av (iV n) (l_v (Uz rfl rfl) (Av (.bool (decide (low≤n))) (Cn (decide (low≤n)) (fun a=>?_) (fun a=>?_))))))
 ·have e:=lZ2 a
  refine l_M (iV n) (gY rfl a) rfl (l_M (iV high) (gY rfl a) rfl (Aa (gY rfl a) (Uz rfl rfl) (l_v (Bt rfl a (v:=.bool (decide (n≤high))) rfl) (Au (.bool (decide (n≤high))) (l_k c (Aq (b (rT (.bool (decide (n≤high))) ?_))))))))
  simp only[inR,a,bZl]
 have e:=lZ1 a
 refine Ap (gN rfl a) (Ap (gN rfl a) (Ap (gN rfl a) (l_v (Bn rfl a (v:=bF) rfl) (Au bF (l_k c (Aq (b (rT bF ?_))))))))
 simp only[inR,a,bZl]
theorem Bed{n low high}:CallsH (CX mn X) 52 #[iV n,iV low,iV high] ρ σ (rP ρ σ (.bool (inR n low high))):=by
 refine Bq 15 [6] Byr rfl fun Q b h=>w_q rfl rfl fun f d=>Au bF (Arx rfl rfl d fun g c=>Av (iV low) (Av (iV n) (l_v (Uz rfl rfl) (Av (.bool (decide (low≤n))) (Cn (decide (low≤n)) (fun a=>?_) (fun a=>?_))))))
 ·have e:=lZ2 a
  refine l_M (iV n) (gY rfl a) rfl (l_M (iV high) (gY rfl a) rfl (Aa (gY rfl a) (Uz rfl rfl) (l_v (Bt rfl a (v:=.bool (decide (n≤high))) rfl) (Au (.bool (decide (n≤high))) (l_k c (Aq (b (rT (.bool (decide (n≤high))) ?_))))))))
  simp only[inR,a,bZl]
 have e:=lZ1 a
 refine Ap (gN rfl a) (Ap (gN rfl a) (Ap (gN rfl a) (l_v (Bn rfl a (v:=bF) rfl) (Au bF (l_k c (Aq (b (rT bF ?_))))))))
 simp only[inR,a,bZl]
theorem Yc{x vx low high}(rx:Val ρ vx x):CallsH (CX mn X) 113 #[vx,iV low,iV high] ρ σ (rP ρ σ (.bool (Ef x low high))):=by
 refine Bq 24 [6] Tryz.func113 rfl fun Q e E=>w_q rfl rfl fun p l=>Arv (Eb (v:=vx) rfl fun F=>?_)
 refine Bb (a:=x) rx fun K g d=>Au bF (Arx rfl rfl l fun q f=>Av (iV low) (Arw (Ba Span.f_low Bxl rfl ty3 d) fun H i=>?_))
 have⟨z,B⟩:=At.rng i
 refine l_v (Bc ty3 rfl i) (l_v (Uz rfl rfl) (Av (.bool (decide (low≤x.low))) (Cn (decide (low≤x.low)) (fun b=>?_) (fun b=>?_))))
 ·have n:=lZ2 b
  refine Ak (gY rfl b) (Ba Span.f_low Bxl rfl ty3 d) fun I j=>?_
  have⟨C,D⟩:=At.rng j
  refine Aa (gY rfl b) (Bc ty3 rfl j) (Ak (gY rfl b) (Ba Span.f_high Bxl rfl ty3 d) fun J k=>?_)
  have⟨t,u⟩:=At.rng k
  refine Aa (gY rfl b) (Bc ty3 rfl k) (Aa (gY rfl b) (Uz rfl rfl) (l_v (Bt rfl b (v:=.bool (decide (x.low≤x.high))) rfl) (Av (.bool (decide (x.low≤x.high))) (Cn (decide (x.low≤x.high)) (fun c=>?_) (fun c=>?_)))))
  ·have m:=lZ2 c
   refine Ak (gY rfl c) (Ba Span.f_high Bxl rfl ty3 d) fun G h=>?_
   have⟨w,y⟩:=At.rng h
   refine Aa (gY rfl c) (Bc ty3 rfl h) (l_M (iV high) (gY rfl c) rfl (Aa (gY rfl c) (Uz rfl rfl) (l_v (Bt rfl c (v:=.bool (decide (x.high≤high))) rfl) (Au (.bool (decide (x.high≤high))) (l_k f (Aj (Cah g) (Aq (e (rT (.bool (decide (x.high≤high))) ?_)))))))))
   simp only[Ef,b,c,bZl]
  have m:=lZ1 c
  refine Ap (gN rfl c) (Ap (gN rfl c) (Ap (gN rfl c) (Ap (gN rfl c) (l_v (Bn rfl c (v:=bF) rfl) (Au bF (l_k f (Aj (Cah g) (Aq (e (rT bF ?_))))))))))
  simp only[Ef,b,c,bZl]
 have n:=lZ1 b
 refine Ap (gN rfl b) (Ap (gN rfl b) (Ap (gN rfl b) (Ap (gN rfl b) (Ap (gN rfl b) (l_v (Bn rfl b (v:=bF) rfl) (Av bF (Ap (gN rfl rfl) (Ap (gN rfl rfl) (Ap (gN rfl rfl) (Ap (gN rfl rfl) (l_v (Bn rfl rfl (v:=bF) rfl) (Au bF (l_k f (Aj (Cah g) (Aq (e (rT bF ?_)))))))))))))))))
 simp only[Ef,b,bZl]
theorem Aut{x vx low high}(rx:Val ρ vx x):CallsH (CX mn X) 54 #[vx,iV low,iV high] ρ σ (rP ρ σ (.bool (Ef x low high))):=by
 refine Bq 24 [6] Tryz.func54 rfl fun Q e E=>w_q rfl rfl fun p l=>Arv (Eb (v:=vx) rfl fun F=>?_)
 refine Bb (a:=x) rx fun K g d=>Au bF (Arx rfl rfl l fun q f=>Av (iV low) (Arw (Ba Span.f_low Bxl rfl ty3 d) fun H i=>?_))
 have⟨z,B⟩:=At.rng i
 refine l_v (Bc ty3 rfl i) (l_v (Uz rfl rfl) (Av (.bool (decide (low≤x.low))) (Cn (decide (low≤x.low)) (fun b=>?_) (fun b=>?_))))
 ·have n:=lZ2 b
  refine Ak (gY rfl b) (Ba Span.f_low Bxl rfl ty3 d) fun I j=>?_
  have⟨C,D⟩:=At.rng j
  refine Aa (gY rfl b) (Bc ty3 rfl j) (Ak (gY rfl b) (Ba Span.f_high Bxl rfl ty3 d) fun J k=>?_)
  have⟨t,u⟩:=At.rng k
  refine Aa (gY rfl b) (Bc ty3 rfl k) (Aa (gY rfl b) (Uz rfl rfl) (l_v (Bt rfl b (v:=.bool (decide (x.low≤x.high))) rfl) (Av (.bool (decide (x.low≤x.high))) (Cn (decide (x.low≤x.high)) (fun c=>?_) (fun c=>?_)))))
  ·have m:=lZ2 c
   refine Ak (gY rfl c) (Ba Span.f_high Bxl rfl ty3 d) fun G h=>?_
   have⟨w,y⟩:=At.rng h
   refine Aa (gY rfl c) (Bc ty3 rfl h) (l_M (iV high) (gY rfl c) rfl (Aa (gY rfl c) (Uz rfl rfl) (l_v (Bt rfl c (v:=.bool (decide (x.high≤high))) rfl) (Au (.bool (decide (x.high≤high))) (l_k f (Aj (Cah g) (Aq (e (rT (.bool (decide (x.high≤high))) ?_)))))))))
   simp only[Ef,b,c,bZl]
  have m:=lZ1 c
  refine Ap (gN rfl c) (Ap (gN rfl c) (Ap (gN rfl c) (Ap (gN rfl c) (l_v (Bn rfl c (v:=bF) rfl) (Au bF (l_k f (Aj (Cah g) (Aq (e (rT bF ?_))))))))))
  simp only[Ef,b,c,bZl]
 have n:=lZ1 b
 refine Ap (gN rfl b) (Ap (gN rfl b) (Ap (gN rfl b) (Ap (gN rfl b) (Ap (gN rfl b) (l_v (Bn rfl b (v:=bF) rfl) (Av bF (Ap (gN rfl rfl) (Ap (gN rfl rfl) (Ap (gN rfl rfl) (Ap (gN rfl rfl) (l_v (Bn rfl rfl (v:=bF) rfl) (Au bF (l_k f (Aj (Cah g) (Aq (e (rT bF ?_)))))))))))))))))
 simp only[Ef,b,bZl]
theorem Ayo{s}:CallsH (CX mn X) 53 #[.string s] ρ σ (rP ρ σ (.bool (Hg s))):=by
 refine Bq 46 [2] Cad rfl fun Q D ap=>w_q rfl rfl fun K1 N=>Au bF (Ary rfl rfl N fun K2 K3 W G=>Av (.string s) (l_v (Afz Bwz (s:=s) rfl) (Arv (Ce Bed Byr ?_))))
 refine l_v (Iy rfl) (Av (.bool (!(inR (s.size:Int) 1 14))) (Cn (!(inR (s.size:Int) 1 14)) (fun b=>?_) (fun b=>?_)))
 ·have H:=not_eq_t b
  have q5:=Xb.1 H
  refine Ap (gN rfl b) (Ap (gN rfl b) (Ap (gN rfl b) (l_v (Bt rfl b (v:=bT) rfl) (Av bT (Ap (gN rfl rfl) (Ap (gN rfl rfl) (Ap (gN rfl rfl) (l_v (Bt rfl rfl (v:=bT) rfl) (l_k G (Co rfl rfl (w_q rfl rfl fun K6 k6=>Au bF (l_k k6 (Aq (D (rT bF ?_)))))))))))))))
  simp only[Hg,Qb,b,H,bZl]
 have k:=not_eq_f b
 have q7:=Fz.1 k
 refine l_M (.string s) (gY rfl b) rfl ?_
 obtain⟨z,C⟩:=Alc (s:=s) (i:=0) (by omega)
 refine Aa (gY rfl b) (Ace 0 z Bwz rfl (q:=0) rfl rfl C) (Aa (gY rfl b) (Da rfl rfl) (l_v (Bn rfl b (v:=.bool (decide ((z.toNat:Int)<97))) rfl) (Av (.bool (decide ((z.toNat:Int)<97))) (Cn (decide ((z.toNat:Int)<97)) (fun c=>?_) (fun c=>?_)))))
 ·have q9:=lZ2 c
  refine Ap (gN rfl c) (Ap (gN rfl c) (Ap (gN rfl c) (l_v (Bt rfl c (v:=bT) rfl) (l_k G (Co rfl rfl (w_q rfl rfl fun ad O=>Au bF (l_k O (Aq (D (rT bF ?_))))))))))
  simp only[Hg,Qb,C,b,k,c,bZl]
 have q9:=lZ1 c
 refine l_M (.string s) (gY rfl c) rfl (Aa (gY rfl c) (Ace 0 z Bwz rfl (q:=0) rfl rfl C) (Aa (gY rfl c) (Gl rfl rfl) (l_v (Bn rfl c (v:=.bool (decide ((z.toNat:Int)>122))) rfl) (l_k G (Bu (t:=decide ((z.toNat:Int)>122)) rfl (fun f=>?_) (fun f=>?_))))))
 ·have a5:=lZ2 f
  refine w_q rfl rfl fun ae P=>Au bF (l_k P (Aq (D (rT bF ?_))))
  simp only[Hg,Qb,C,b,k,c,f,bZl]
 have a5:=lZ1 f
 refine Al (kk W ?_)
 refine Asb rfl rfl fun af ag R T=>Au (iV 0) (l_k T (Ao (Cc (fun mm ee dd ρ' σ'=>∃(i:Nat),(s.size-i)=mm∧[]=dd∧ρ=ρ'∧σ=σ'∧ee 0=(.string s)∧ee 3=iV i∧(i≤s.size)∧(∀j,j<i→Alm s j=true)∧True) (m:=_) ⟨0,rfl,rfl,rfl,rfl,rfl,rfl,Hz _,fun j h=>absurd h (Uk _),trivial⟩ ?_)))
 rintro aq an _ _ _ ⟨i,rfl,rfl,rfl,rfl,x,y,ar,I,_⟩
 refine Asb rfl rfl fun ah ai U V=>l_v (Ah (v:=iV i) y) (l_v (Ah (v:=.string s) x) (l_v (Afz Bwz (s:=s) rfl) (l_v (Da rfl rfl) (l_k V (Bu (t:=decide ((i:Int)<(s.size:Int))) rfl (fun g=>?_) (fun g=>?_))))))
 ·have a6:=lZ2 g
  refine Al (kk U ?_)
  refine Ai fun aj Y=>Ao (w_q rfl rfl fun ak Z=>l_v (Ah (v:=.string s) x) (l_v (Ah (v:=iV i) y) ?_))
  obtain⟨a,w⟩:=Alc (s:=s) (i:=i) (by omega)
  refine l_v (Ace i a Bwz rfl (q:=(i:Int)) rfl rfl w) (Au (.int .u8 (a.toNat:Int)) (Asa Z fun J a0=>?_))
  have B:∀(bd:Bool) (ee:Env),(ee 0=(.string s))∧(ee 3=iV i)∧(ee 45=(.bool bd))∧(bd=true→Alm s i=false)∧(bd=false→Alm s i=true)∧True→J ee [] ρ σ:=by
   rintro bd ao ⟨K,L,M,a3,a4,_⟩
   apply a0
   refine Bu (t:=bd) M (fun E=>?_) (fun E=>?_)
   ·refine w_q rfl rfl fun al a1=>Au bF (l_k a1 (Aq (D (rT bF ?_))))
    have F:=Bol (by omega) (a3 E)
    simp only[Hg,F,b,k,c,f,g,E,bZl]
   refine Al (kk Y ?_)
   refine Ag rfl rfl (l_v (Ah (v:=iV i) L) (l_v (Dm (((i+1):Nat):Int)) (Au (iV ((i+1):Nat)) (Ac ?_))))
   refine⟨_,?_,(i+1),rfl,rfl,rfl,rfl,K,rfl,(by omega),(Eg I (a4 E)),trivial⟩
   omega
  refine Ag rfl rfl (Av (.int .u8 (a.toNat:Int)) (l_v (Da rfl rfl) (Av (.bool (decide ((a.toNat:Int)<97))) (Cn (decide ((a.toNat:Int)<97)) (fun e=>?_) (fun e=>?_)))))
  ·have a7:=lZ2 e
   refine Ap (gN rfl e) (Ap (gN rfl e) (l_v (Bt rfl e (v:=bT) rfl) (Av bT (l_M (.int .u8 (a.toNat:Int)) (gY rfl rfl) rfl (Aa (gY rfl rfl) (Da rfl rfl) (l_M (.bool (decide ((a.toNat:Int)<48))) (gY rfl rfl) rfl (Cn (decide ((a.toNat:Int)<48)) (fun l=>?_) (fun l=>?_))))))))
   ·have a8:=lZ2 l
    refine Ap (gN rfl l) (Ap (gN rfl l) (Aa (gY rfl rfl) (Bt rfl l (v:=bT) rfl) (l_v (Bt rfl rfl (v:=bT) rfl) (Av bT (l_M (.int .u8 (a.toNat:Int)) (gY rfl rfl) rfl (Aa (gY rfl rfl) (Dg rfl rfl) (l_v (Bt rfl rfl (v:=.bool ((a.toNat:Int) != 45)) rfl) (Ac ?_))))))))
    refine B ((a.toNat:Int) != 45) _ ⟨x,y,rfl,fun h=>by simp only[Alm,w,Ov,h,b,k,c,f,g,e,l,bZl],fun h=>by simp only[Alm,w,Ov,h,b,k,c,f,g,e,l,bZl],trivial⟩
   have a8:=lZ1 l
   refine l_M (.int .u8 (a.toNat:Int)) (gY rfl l) rfl (Aa (gY rfl l) (Gl rfl rfl) (Aa (gY rfl rfl) (Bn rfl l (v:=.bool (decide ((a.toNat:Int)>57))) rfl) (l_v (Bt rfl rfl (v:=.bool (decide ((a.toNat:Int)>57))) rfl) (Av (.bool (decide ((a.toNat:Int)>57))) (Cn (decide ((a.toNat:Int)>57)) (fun p=>?_) (fun p=>?_))))))
   ·have a9:=lZ2 p
    refine l_M (.int .u8 (a.toNat:Int)) (gY rfl p) rfl (Aa (gY rfl p) (Dg rfl rfl) (l_v (Bt rfl p (v:=.bool ((a.toNat:Int) != 45)) rfl) (Ac ?_)))
    refine B ((a.toNat:Int) != 45) _ ⟨x,y,rfl,fun h=>by simp only[Alm,w,Ov,h,b,k,c,f,g,e,l,p,bZl],fun h=>by simp only[Alm,w,Ov,h,b,k,c,f,g,e,l,p,bZl],trivial⟩
   have a9:=lZ1 p
   refine Ap (gN rfl p) (Ap (gN rfl p) (l_v (Bn rfl p (v:=bF) rfl) (Ac ?_)))
   refine B false _ ⟨x,y,rfl,fun h=>absurd h (by decide),fun h=>by simp only[Alm,w,Ov,b,k,c,f,g,e,l,p,bZl],trivial⟩
  have a7:=lZ1 e
  refine l_M (.int .u8 (a.toNat:Int)) (gY rfl e) rfl (Aa (gY rfl e) (Gl rfl rfl) (l_v (Bn rfl e (v:=.bool (decide ((a.toNat:Int)>122))) rfl) (Av (.bool (decide ((a.toNat:Int)>122))) (Cn (decide ((a.toNat:Int)>122)) (fun d=>?_) (fun d=>?_)))))
  ·have aa:=lZ2 d
   refine l_M (.int .u8 (a.toNat:Int)) (gY rfl d) rfl (Aa (gY rfl d) (Da rfl rfl) (l_M (.bool (decide ((a.toNat:Int)<48))) (gY rfl d) rfl (Cn (decide ((a.toNat:Int)<48)) (fun n=>?_) (fun n=>?_))))
   ·have ab:=lZ2 n
    refine Ap (gN rfl n) (Ap (gN rfl n) (Aa (gY rfl d) (Bt rfl n (v:=bT) rfl) (l_v (Bt rfl d (v:=bT) rfl) (Av bT (l_M (.int .u8 (a.toNat:Int)) (gY rfl rfl) rfl (Aa (gY rfl rfl) (Dg rfl rfl) (l_v (Bt rfl rfl (v:=.bool ((a.toNat:Int) != 45)) rfl) (Ac ?_))))))))
    refine B ((a.toNat:Int) != 45) _ ⟨x,y,rfl,fun h=>by simp only[Alm,w,Ov,h,b,k,c,f,g,e,d,n,bZl],fun h=>by simp only[Alm,w,Ov,h,b,k,c,f,g,e,d,n,bZl],trivial⟩
   have ab:=lZ1 n
   refine l_M (.int .u8 (a.toNat:Int)) (gY rfl n) rfl (Aa (gY rfl n) (Gl rfl rfl) (Aa (gY rfl d) (Bn rfl n (v:=.bool (decide ((a.toNat:Int)>57))) rfl) (l_v (Bt rfl d (v:=.bool (decide ((a.toNat:Int)>57))) rfl) (Av (.bool (decide ((a.toNat:Int)>57))) (Cn (decide ((a.toNat:Int)>57)) (fun u=>?_) (fun u=>?_))))))
   ·have ac:=lZ2 u
    refine l_M (.int .u8 (a.toNat:Int)) (gY rfl u) rfl (Aa (gY rfl u) (Dg rfl rfl) (l_v (Bt rfl u (v:=.bool ((a.toNat:Int) != 45)) rfl) (Ac ?_)))
    refine B ((a.toNat:Int) != 45) _ ⟨x,y,rfl,fun h=>by simp only[Alm,w,Ov,h,b,k,c,f,g,e,d,n,u,bZl],fun h=>by simp only[Alm,w,Ov,h,b,k,c,f,g,e,d,n,u,bZl],trivial⟩
   have ac:=lZ1 u
   refine Ap (gN rfl u) (Ap (gN rfl u) (l_v (Bn rfl u (v:=bF) rfl) (Ac ?_)))
   refine B false _ ⟨x,y,rfl,fun h=>absurd h (by decide),fun h=>by simp only[Alm,w,Ov,b,k,c,f,g,e,d,n,u,bZl],trivial⟩
  have aa:=lZ1 d
  refine Ap (gN rfl d) (Ap (gN rfl d) (Ap (gN rfl d) (Ap (Jf rfl rfl rfl) (Ap (Jf rfl rfl rfl) (Ap (gN rfl d) (l_v (Bn rfl d (v:=bF) rfl) (Av bF (Ap (gN rfl rfl) (Ap (gN rfl rfl) (l_v (Bn rfl rfl (v:=bF) rfl) (Ac ?_)))))))))))
  refine B false _ ⟨x,y,rfl,fun h=>absurd h (by decide),fun h=>by simp only[Alm,w,Ov,b,k,c,f,g,e,d,bZl],trivial⟩
 have a6:=lZ1 g
 refine Bx (kk R ?_)
 refine w_q rfl rfl fun am a2=>Au bT (l_k a2 (Aq (D (rT bT ?_))))
 have F:=Bcu.2 fun j hj=>I j (by omega)
 simp only[Hg,Qb,F,C,b,k,c,f,g,bZl]
theorem Akc{l vl s}(rl:Val ρ vl l):CallsH (CX mn X) 95 #[vl,.string s] ρ σ (rP ρ σ (iV (findI l s))):=by
 refine Bq 19 [4] Bzf rfl fun Q u Y=>w_q rfl rfl fun J x=>Au (iV 0) (Ary rfl rfl x fun N O C D=>Au (iV 0) (l_k D (Ao (Cc (fun mm ee dd ρ' σ'=>∃(i:Nat),(l.length-i)=mm∧[]=dd∧ρ=ρ'∧σ=σ'∧ee 0=vl∧ee 1=(.string s)∧ee 5=iV i∧(i≤l.length)∧(∀j,j<i→Xi l s j=false)∧True) (m:=_) ⟨0,rfl,rfl,rfl,rfl,rfl,rfl,rfl,Hz _,fun j h=>absurd h (Uk _),trivial⟩ ?_))))
 rintro Z U _ _ _ ⟨i,rfl,rfl,rfl,rfl,d,k,c,a0,f,_⟩
 refine Asb rfl rfl fun P R E F=>l_v (Ah (v:=iV i) c) (l_v (Ah (v:=vl) d) ?_)
 have W:=Can rl
 refine l_v (Ci (el:=9) Bwy rfl rl) (l_v (Da rfl rfl) (l_k F (Bu (t:=decide ((i:Int)<(l.length:Int))) rfl (fun b=>?_) (fun b=>?_))))
 ·have I:=lZ2 b
  refine Al (kk E ?_)
  refine Ai fun T G=>Ao (w_q rfl rfl fun K y=>l_v (Ah (v:=vl) d) (l_v (Ah (v:=iV i) c) ?_))
  obtain⟨g,e⟩:=Ed (xs:=l) (i:=i) (by omega)
  refine Arw (Ch i Bwy ty9 rfl rl (q:=(i:Int)) rfl rfl e) fun a1 w=>?_
  have V:=At.slen w
  refine l_v (Pk ty9 rfl w) (l_v (Ah (v:=.string s) k) (l_v (Aya (p:=g) (q:=s) rfl rfl) (l_k y (Bu (t:=(g).toList==(s).toList) rfl (fun a=>?_) (fun a=>?_)))))
  ·have H:=Jr a
   refine w_q rfl rfl fun L z=>l_v (Ah (v:=iV i) c) (Au (iV i) (l_k z (Aq (u (rT (iV i) ?_)))))
   have hi:=Fh (n:=l.length) f (by omega) (show Xi l s i=true by simp only[Xi,e,b,a])
   simp only[findI,hi]
  have H:=Jq a
  refine Al (kk G ?_)
  refine Ag rfl rfl (l_v (Ah (v:=iV i) c) (l_v (Dm (((i+1):Nat):Int)) (Au (iV ((i+1):Nat)) (Ac ?_))))
  refine⟨_,?_,(i+1),rfl,rfl,rfl,rfl,d,k,rfl,(by omega),(Eg f (by simp only[Xi,e,b,a])),trivial⟩
  omega
 have I:=lZ1 b
 refine Bx (kk C ?_)
 refine w_q rfl rfl fun M B=>Au (iV (-1)) (l_k B (Aq (u (rT (iV (-1)) ?_))))
 have hn:=Ep (n:=l.length) fun j hj=>f j (by omega)
 simp only[findI,hn]
theorem Asv{l vl most}(rl:Val ρ vl l):CallsH (CX mn X) 51 #[vl,iV most] ρ σ (rP ρ σ (iV (Dd l most))):=by
 refine Bq 31 [4] Cac rfl fun Q k a9=>w_q rfl rfl fun V z=>Au (iV 0) (Ary rfl rfl z fun K2 K3 G K=>Av vl ?_)
 have g4:=Can rl
 refine l_v (Ci (el:=9) Bwy rfl rl) (Av (iV most) (l_v (Gl rfl rfl) (l_k K (Bu (t:=decide ((l.length:Int)>most)) rfl (fun c=>?_) (fun c=>?_)))))
 ·have T:=lZ2 c
  refine w_q rfl rfl fun K6 M=>Au (iV 2) (l_k M (Aq (k (rT (iV 2) ?_))))
  rw[Dd,if_pos (by omega)]
 have T:=lZ1 c
 refine Al (kk G ?_)
 refine Asb rfl rfl fun K7 K8 N O=>Au (iV 0) (l_k O (Ao (Cc (fun mm ee dd ρ' σ'=>∃(i:Nat),(l.length-i)=mm∧[]=dd∧ρ=ρ'∧σ=σ'∧ee 0=vl∧ee 5=iV i∧(i≤l.length)∧(∀j,j<i→Nh l j=0)∧True) (m:=_) ⟨0,rfl,rfl,rfl,rfl,rfl,rfl,Hz _,fun j h=>absurd h (Uk _),trivial⟩ ?_)))
 rintro m9 e9 _ _ _ ⟨i,rfl,rfl,rfl,rfl,e,f,aa,n,_⟩
 refine Asb rfl rfl fun W Y B C=>l_v (Ah (v:=iV i) f) (l_v (Ah (v:=vl) e) ?_)
 have a6:=Can rl
 refine l_v (Ci (el:=9) Bwy rfl rl) (l_v (Da rfl rfl) (l_k C (Bu (t:=decide ((i:Int)<(l.length:Int))) rfl (fun a=>?_) (fun a=>?_))))
 ·have P:=lZ2 a
  refine Al (kk B ?_)
  refine Ai fun Z D=>Ao (Asb rfl rfl fun a0 a1 E F=>l_v (Ah (v:=vl) e) (l_v (Ah (v:=iV i) f) ?_))
  obtain⟨p,g⟩:=Ed (xs:=l) (i:=i) (by omega)
  refine Arw (Ch i Bwy ty9 rfl rl (q:=(i:Int)) rfl rfl g) fun ab w=>?_
  have a7:=At.slen w
  refine l_v (Pk ty9 rfl w) (Arv (Ce Ayo Cad ?_))
  refine l_v (Iy rfl) (l_k F (Bu (t:=!(Hg p)) rfl (fun b=>?_) (fun b=>?_)))
  ·have y:=not_eq_t b
   refine w_q rfl rfl fun a2 H=>Au (iV 4) (l_k H (Aq (k (rT (iV 4) ?_))))
   have hf:Nh l i=4:=by simp only[Nh,g,c,a,b,y];first|rfl|omega|(simp;done)|(simp;omega)
   rw[Dd,if_neg (by omega),Db n (by omega) hf (by omega)]
  have u:=not_eq_f b
  refine Al (kk E ?_)
  refine Ai fun a3 I=>Px (Bw 0 zZ0 rfl (Ah (v:=vl) e) (Bw 1 zZ1 rfl (Ah (v:=iV i) f) (Cu 2 Anr rfl (Bbg i Bwy ty9 rfl rl (q:=(i:Int)) rfl rfl (by omega)) fun ac U=>Bw 3 Ans rfl (Ah (v:=vl) e) (Dp 4 Ant rfl (Ah (v:=iV i) f) (Jm 5 zZ8 rfl (Ch i Bwy ty9 rfl rl (q:=(i:Int)) rfl rfl g) fun ad x=>?_)))))
  have a8:=At.slen x
  refine Dp 6 zZ2 rfl (Pk ty9 rfl x) (Hr 7 zZ3 rfl (Bm (Akc U) Bzf rfl rfl ⟨rfl,rfl,trivial⟩ ⟨Cal,?_⟩))
  refine Dp 8 zZ4 rfl (Uy rfl rfl) (Ec rfl (kk I ?_))
  refine Bu (t:=decide (findI (l.take i) p≥0)) rfl (fun d=>?_) (fun d=>?_)
  ·have R:=lZ2 d
   refine w_q rfl rfl fun a4 J=>Au (iV 5) (l_k J (Aq (k (rT (iV 5) ?_))))
   have hf:Nh l i=5:=by simp only[Nh,g,c,a,b,u,d];first|rfl|omega|(simp;done)|(simp;omega)
   rw[Dd,if_neg (by omega),Db n (by omega) hf (by omega)]
  have R:=lZ1 d
  refine Al (kk D ?_)
  refine Ag rfl rfl (l_v (Ah (v:=iV i) f) (l_v (Dm (((i+1):Nat):Int)) (Au (iV ((i+1):Nat)) (Ac ?_))))
  refine⟨_,?_,(i+1),rfl,rfl,rfl,rfl,e,rfl,(by omega),(Eg n (by simp only[Nh,g,c,a,b,u,d];first|rfl|omega|(simp;done)|(simp;omega))),trivial⟩
  omega
 have P:=lZ1 a
 refine Bx (kk N ?_)
 refine w_q rfl rfl fun a5 L=>Au (iV 0) (l_k L (Aq (k (rT (iV 0) ?_))))
 rw[Dd,if_neg (by omega),Fb fun j hj=>n j (by omega)]
end
section
open Go
variable{mn:Bool}{X:Frame→List Frame→Ro→Own→Cy→Prop}{ρ:Ro}{σ:Own}
theorem Ass{l vl many}(rl:Val ρ vl l):CallsH (CX mn X) 55 #[vl,iV many] ρ σ (rP ρ σ (iV (Fm l many))):=by
 refine Bq 22 [4] Tryz.func55 rfl fun Q g a1=>w_q rfl rfl fun N y=>Au (iV 0) (Ary rfl rfl y fun U Y E H=>Av vl ?_)
 have g4:=Can rl
 refine l_v (Ci (el:=48) Bxi rfl rl) (Av (iV many) (l_v (Dg rfl rfl) (l_k H (Bu (t:=(l.length:Int) != many) rfl (fun c=>?_) (fun c=>?_)))))
 ·have p:=Ls c
  refine w_q rfl rfl fun Z I=>Au (iV 2) (l_k I (Aq (g (rT (iV 2) ?_))))
  rw[Fm,if_neg (by omega)]
 have p:=Jh c
 refine Al (kk E ?_)
 refine Asb rfl rfl fun K7 K8 J K=>Au (iV 0) (l_k K (Ao (Cc (fun mm ee dd ρ' σ'=>∃(i:Nat),(l.length-i)=mm∧[]=dd∧ρ=ρ'∧σ=σ'∧ee 0=vl∧ee 5=iV i∧(i≤l.length)∧(∀j,j<i→Nn l j=0)∧True) (m:=_) ⟨0,rfl,rfl,rfl,rfl,rfl,rfl,Hz _,fun j h=>absurd h (Uk _),trivial⟩ ?_)))
 rintro m9 e9 _ _ _ ⟨i,rfl,rfl,rfl,rfl,d,e,a2,k,_⟩
 refine Asb rfl rfl fun O P z B=>l_v (Ah (v:=iV i) e) (l_v (Ah (v:=vl) d) ?_)
 have a0:=Can rl
 refine l_v (Ci (el:=48) Bxi rfl rl) (l_v (Da rfl rfl) (l_k B (Bu (t:=decide ((i:Int)<(l.length:Int))) rfl (fun a=>?_) (fun a=>?_))))
 ·have n:=lZ2 a
  refine Al (kk z ?_)
  refine Ai fun R C=>Ao (w_q rfl rfl fun T D=>l_v (Ah (v:=vl) d) (l_v (Ah (v:=iV i) e) ?_))
  obtain⟨u,f⟩:=Ed (xs:=l) (i:=i) (by omega)
  refine Arw (Ch i Bxi Mx rfl rl (q:=(i:Int)) rfl rfl f) fun a3 L=>Arw (Ax Mx rfl L) fun a4 M=>Arv (Ce (Aut M) Tryz.func54 ?_)
  refine l_v (Iy rfl) (l_k D (Bu (t:=!(Ef u 0 1000)) rfl (fun b=>?_) (fun b=>?_)))
  ·have w:=not_eq_t b
   refine w_q rfl rfl fun V F=>Au (iV 1) (l_k F (Aq (g (rT (iV 1) ?_))))
   have hf:Nn l i=1:=by simp[Nn,f,c,a,b,w,p,n]
   rw[Fm,if_pos (by omega),Db k (by omega) hf (by omega)]
  have x:=not_eq_f b
  refine Al (kk C ?_)
  refine Ag rfl rfl (l_v (Ah (v:=iV i) e) (l_v (Dm (((i+1):Nat):Int)) (Au (iV ((i+1):Nat)) (Ac ?_))))
  refine⟨_,?_,(i+1),rfl,rfl,rfl,rfl,d,rfl,(by omega),(Eg k (by simp[Nn,f,c,a,b,x,p,n])),trivial⟩
  omega
 have n:=lZ1 a
 refine Bx (kk J ?_)
 refine w_q rfl rfl fun W G=>Au (iV 0) (l_k G (Aq (g (rT (iV 0) ?_))))
 rw[Fm,if_pos (by omega),Fb fun j hj=>k j (by omega)]
theorem Acd{m vm}(rm:Val ρ vm m):CallsH (CX mn X) 15 #[vm] ρ σ (rP ρ σ (iV (Cf m))):=by
 refine Bq 137 [2] Tryz.func15 rfl fun Q y h1=>w_q rfl rfl fun K1 k1=>Arv (Eb (v:=vm) rfl fun k2=>?_)
 refine Bb (a:=m) rm fun bp B w=>Au (iV 0) (Ary rfl rfl k1 fun K3 K4 k3 k4=>Arw (Ba Market.f_houses Bxa rfl Hw w) fun v5 r5=>Arw (Ax Hw rfl r5) fun v6 r6=>Arv (Ce (Asv r6) Cac ?_))
 refine Au (iV (Dd m.houses 5)) (Arx rfl rfl k4 fun K7 k7=>Av (iV (Dd m.houses 5)) (l_v (Dg rfl rfl) (l_k k7 (Bu (t:=Dd m.houses 5 != 0) rfl (fun u=>?_) (fun u=>?_)))))
 ·have d:=Ls u
  refine w_q rfl rfl fun K9 k9=>Av (iV (Dd m.houses 5)) (Au (iV (Dd m.houses 5)) (l_k k9 (Aj (Cah B) (Aq (y (rT (iV (Dd m.houses 5)) ?_))))))
  rw[Cf,Ry d]
 have d:=Jh u
 refine Al (kk k3 ?_)
 refine Asb rfl rfl fun ep ev bt c1=>Arw (Ba Market.f_marks Bxa rfl Hw w) fun hk dt=>Arw (Ax Hw rfl dt) fun hm du=>Arv (Ce (Asv du) Cac ?_)
 refine Au (iV (Dd m.marks 4)) (Arx rfl rfl c1 fun f7 ce=>Av (iV (Dd m.marks 4)) (l_v (Dg rfl rfl) (l_k ce (Bu (t:=Dd m.marks 4 != 0) rfl (fun g=>?_) (fun g=>?_)))))
 ·have e:=Ls g
  refine w_q rfl rfl fun fd ci=>Av (iV (Dd m.marks 4)) (Au (iV (Dd m.marks 4)) (l_k ci (Aj (Cah B) (Aq (y (rT (iV (Dd m.marks 4)) ?_))))))
  rw[Cf,Gr d,Ry e]
 have e:=Jh g
 refine Al (kk bt ?_)
 refine Asb rfl rfl fun fe fh cj cm=>Arw (Ba Market.f_fields Bxa rfl Se w) fun i5 e4=>Arw (Ax Se rfl e4) fun i6 bf=>?_
 have gr:=Can bf
 refine l_v (Ci (el:=51) Bxn rfl bf) (l_v (Gl rfl rfl) (l_k cm (Bu (t:=decide ((m.fields.length:Int)>6)) rfl (fun l=>?_) (fun l=>?_))))
 ·have G:=lZ2 l
  refine w_q rfl rfl fun fi cn=>Au (iV 2) (l_k cn (Aj (Cah B) (Aq (y (rT (iV 2) ?_)))))
  rw[Cf,Gr d,Gr e,Ew,if_pos G,Ry (by omega)]
 have G:=lZ1 l
 refine Al (kk cj ?_)
 refine Asb rfl rfl fun fj fk co cp=>Au (iV 0) (l_k cp (Ao (Cc (fun mm ee dd ρ' σ'=>∃(i:Nat),(m.fields.length-i)=mm∧[]=dd∧bp=ρ'∧σ=σ'∧ee 1=pV k2∧ee 5=iV i∧(i≤m.fields.length)∧(∀j,j<i→fieldAt m j=0)∧True) (m:=_) ⟨0,rfl,rfl,rfl,rfl,rfl,rfl,Hz _,fun j h=>absurd h (Uk _),trivial⟩ ?_)))
 rintro h4 gc _ _ _ ⟨i,rfl,rfl,rfl,rfl,a9,ao,h8,F,_⟩
 refine Asb rfl rfl fun fl fm cq cr=>l_v (Ah (v:=iV i) ao) (Arw (Ba Market.f_fields Bxa rfl Se w a9) fun i7 e5=>Arw (Ax Se rfl e5) fun i8 bg=>?_)
 have gs:=Can bg
 refine l_v (Ci (el:=51) Bxn rfl bg) (l_v (Da rfl rfl) (l_k cr (Bu (t:=decide ((i:Int)<(m.fields.length:Int))) rfl (fun n=>?_) (fun n=>?_))))
 ·have J:=lZ2 n
  refine Al (kk cq ?_)
  refine Ai fun fn cs=>Ao (w_q rfl rfl fun fo ct=>Arw (Ba Market.f_fields Bxa rfl Se w a9) fun i9 e6=>Arw (Ax Se rfl e6) fun ia e7=>l_v (Ah (v:=iV i) ao) ?_)
  obtain⟨f,U⟩:=Ed (xs:=m.fields) (i:=i) (by omega)
  refine Arw (Ch i Bxn Lo rfl e7 (q:=(i:Int)) rfl rfl U) fun ib e8=>Arw (Ax Lo rfl e8) fun em bh=>Arv (Ct Xu fun cu=>?_)
  refine Cx rfl (Dv (v:=em) (a:=f) (c:=Aah) Lo rfl rfl bh rfl ?_)
  refine Bb (a:=f) bh fun eo V ae=>?_
  replace w:=At.mono V w
  refine Ary rfl rfl ct fun fp fq cv cw=>Arw (Ba FField.f_name Bxf rfl ty9 ae) fun ic bi=>?_
  have gt:=At.slen bi
  refine l_v (Pk ty9 rfl bi) (Arv (Ce Ayo Cad ?_))
  refine l_v (Iy rfl) (l_k cw (Bu (t:=!(Hg f.name)) rfl (fun I=>?_) (fun I=>?_)))
  ·have bq:=not_eq_t I
   refine w_q rfl rfl fun fr cx=>Au (iV 4) (l_k cx (Aj (Cah (Cam B V)) (Aq (y (rT (iV 4) ?_)))))
   have hf:fieldAt m i=4:=by simp[fieldAt,U,u,g,l,n,I,bq,d,e,G,J]
   have hF:Ew m=4:=by rw[Ew,if_neg (by omega),Db F (by omega) hf (by omega)]
   rw[Cf,Gr d,Gr e,hF,Ry (by omega)]
  have P:=not_eq_f I
  refine Al (kk cv ?_)
  refine Asb rfl rfl fun fs ft cy cz=>Au (iV 0) (l_k cz (Ao (Cc (fun mm ee dd ρ' σ'=>∃(k:Nat),(i-k)=mm∧[]=dd∧eo=ρ'∧σ=σ'∧ee 1=pV k2∧ee 5=iV i∧ee 6=pV cu∧ee 7=iV k∧(k≤i)∧(∀j,j<k→Mk m f.name j=false)∧True) (m:=_) ⟨0,rfl,rfl,rfl,rfl,a9,ao,rfl,rfl,Hz _,fun j h=>absurd h (Uk _),trivial⟩ ?_)))
  rintro h5 gd _ _ _ ⟨k,rfl,rfl,rfl,rfl,aa,ap,ab,aq,h9,a5,_⟩
  refine Asb rfl rfl fun fu fv d0 d1=>l_v (Ah (v:=iV k) aq) (l_v (Ah (v:=iV i) ap) (l_v (Da rfl rfl) (l_k d1 (Bu (t:=decide ((k:Int)<(i:Int))) rfl (fun L=>?_) (fun L=>?_)))))
  ·have O:=lZ2 L
   refine Al (kk d0 ?_)
   refine Ai fun fw d2=>Ao (Ai fun fx d3=>Px (Cu 0 zZ0 rfl (Ba Market.f_fields Bxa rfl Se w aa) fun ie e9=>Cu 1 zZ1 rfl (Ax Se rfl e9) fun ig ea=>Bw 2 Anr rfl (Ah (v:=iV k) aq) ?_))
   obtain⟨ay,au⟩:=Ed (xs:=m.fields) (i:=k) (by omega)
   refine Cu 3 Ans rfl (Ch k Bxn Lo rfl ea (q:=(k:Int)) rfl rfl au) fun ih eb=>Cu 4 Ant rfl (Ba FField.f_name Bxf rfl ty9 eb) fun ii bj=>?_
   have gu:=At.slen bj
   refine Bw 5 zZ8 rfl (Pk ty9 rfl bj) (Jm 6 zZ2 rfl (Ba FField.f_name Bxf rfl ty9 ae ab) fun ij bk=>?_)
   have gv:=At.slen bk
   refine Dp 7 zZ3 rfl (Pk ty9 rfl bk) (Dp 8 zZ4 rfl (Aya (p:=ay.name) (q:=f.name) rfl rfl) (Ec rfl (kk d3 ?_)))
   refine Bu (t:=(ay.name).toList==(f.name).toList) rfl (fun Y=>?_) (fun Y=>?_)
   ·have ai:=Jr Y
    refine w_q rfl rfl fun fy d4=>Au (iV 5) (l_k d4 (Aj (Cah (Cam B V)) (Aq (y (rT (iV 5) ?_)))))
    have hi:Cl i (Mk m f.name)=some k:=Fh a5 (by omega) (by simp[Mk,au,u,g,l,n,I,P,L,Y,d,e,G,J,O,ai])
    have hf:fieldAt m i=5:=by simp[fieldAt,U,hi,u,g,l,n,I,P,L,Y,d,e,G,J,O,ai]
    have hF:Ew m=5:=by rw[Ew,if_neg (by omega),Db F (by omega) hf (by omega)]
    rw[Cf,Gr d,Gr e,hF,Ry (by omega)]
   have ai:=Jq Y
   refine Al (kk d2 ?_)
   refine Ag rfl rfl (l_v (Ah (v:=iV k) aq) (l_v (Dm (((k+1):Nat):Int)) (Au (iV ((k+1):Nat)) (Ac ?_))))
   refine⟨_,?_,(k+1),rfl,rfl,rfl,rfl,aa,ap,ab,rfl,(by omega),(Eg a5 (by simp[Mk,au,u,g,l,n,I,P,L,Y,d,e,G,J,O,ai])),trivial⟩
   omega
  have O:=lZ1 L
  refine Bx (kk cy ?_)
  refine Asb rfl rfl fun fz g0 d5 d6=>Arw (Ba FField.f_house Bxf rfl ty3 ae ab) fun ik bl=>?_
  have⟨gw,gx⟩:=At.rng bl
  refine l_v (Bc ty3 rfl bl) (Arw (Ba Market.f_houses Bxa rfl Hw w aa) fun il ec=>Arw (Ax Hw rfl ec) fun im bm=>?_)
  have gy:=Can bm
  refine l_v (Ci (el:=9) Bwy rfl bm) (l_v (Ou rfl rfl (z:=(m.houses.length:Int)-1) wrE) (Arv (Ce Bed Byr ?_)))
  refine l_v (Iy rfl) (l_k d6 (Bu (t:=!(inR f.house 0 ((m.houses.length:Int)-1))) rfl (fun R=>?_) (fun R=>?_)))
  ·have b0:=not_eq_t R
   have dn:=Xb.1 b0
   refine w_q rfl rfl fun g1 d7=>Au (iV 6) (l_k d7 (Aj (Cah (Cam B V)) (Aq (y (rT (iV 6) ?_)))))
   have hi:Cl i (Mk m f.name)=none:=Ep fun j hj=>a5 j (by omega)
   have hf:fieldAt m i=6:=by simp[fieldAt,U,hi,u,g,l,n,I,P,L,R,b0,d,e,G,J,O,dn]
   have hF:Ew m=6:=by rw[Ew,if_neg (by omega),Db F (by omega) hf (by omega)]
   rw[Cf,Gr d,Gr e,hF,Ry (by omega)]
  have ag:=not_eq_f R
  have ax:=Fz.1 ag
  refine Al (kk d5 ?_)
  refine Asb rfl rfl fun g2 g3 d8 d9=>Arw (Ba FField.f_grows Bxf rfl Mx ae ab) fun io ed=>Arw (Ax Mx rfl ed) fun ip ef=>Arv (Ce (Aut ef) Tryz.func54 ?_)
  refine l_v (Iy rfl) (l_k d9 (Bu (t:=!(Ef f.grows 0 1000000)) rfl (fun Z=>?_) (fun Z=>?_)))
  ·have br:=not_eq_t Z
   refine w_q rfl rfl fun g4 da=>Au (iV 1) (l_k da (Aj (Cah (Cam B V)) (Aq (y (rT (iV 1) ?_)))))
   have hi:Cl i (Mk m f.name)=none:=Ep fun j hj=>a5 j (by omega)
   have hf:fieldAt m i=1:=by simp[fieldAt,U,hi,u,g,l,n,I,P,L,R,ag,Z,br,d,e,G,J,O,ax]
   have hF:Ew m=1:=by rw[Ew,if_neg (by omega),Db F (by omega) hf (by omega)]
   rw[Cf,Gr d,Gr e,hF,Ry (by omega)]
  have b1:=not_eq_f Z
  refine Al (kk d8 ?_)
  refine w_q rfl rfl fun g5 db=>Arw (Ba FField.f_marks Bxf rfl Uo ae ab) fun iq eg=>Arw (Ax Uo rfl eg) fun ir eh=>Arw (Ba Market.f_marks Bxa rfl Hw w aa) fun it ei=>Arw (Ax Hw rfl ei) fun iu bn=>?_
  have gz:=Can bn
  refine l_v (Ci (el:=9) Bwy rfl bn) (Arv (Ce (Ass eh) Tryz.func55 ?_))
  refine Au (iV (Fm f.marks (m.marks.length:Int))) (Arx rfl rfl db fun g6 dc=>Av (iV (Fm f.marks (m.marks.length:Int))) (l_v (Dg rfl rfl) (l_k dc (Bu (t:=Fm f.marks (m.marks.length:Int) != 0) rfl (fun a8=>?_) (fun a8=>?_)))))
  ·have ad:=Ls a8
   refine w_q rfl rfl fun g7 de=>Av (iV (Fm f.marks (m.marks.length:Int))) (Au (iV (Fm f.marks (m.marks.length:Int))) (l_k de (Aj (Cah (Cam B V)) (Aq (y (rT (iV (Fm f.marks (m.marks.length:Int))) ?_))))))
   have hi:Cl i (Mk m f.name)=none:=Ep fun j hj=>a5 j (by omega)
   have hf:fieldAt m i=Fm f.marks ((m.marks.length:Int)):=by simp[fieldAt,U,hi,u,g,l,n,I,P,L,R,ag,Z,b1,a8,d,e,G,J,O,ax,ad]
   have hF:Ew m=Fm f.marks ((m.marks.length:Int)):=by rw[Ew,if_neg (by omega),Db F (by omega) hf ad]
   rw[Cf,Gr d,Gr e,hF,Ry ad]
  have ad:=Jh a8
  refine Al (kk cs ?_)
  refine Ag rfl rfl (l_v (Ah (v:=iV i) ap) (l_v (Dm (((i+1):Nat):Int)) (Au (iV ((i+1):Nat)) (Bj (Cah V) (Ac ?_)))))
  refine⟨_,?_,((i+1)),rfl,rfl,rfl,rfl,aa,rfl,(by omega),(Eg F (by
  have hi:Cl i (Mk m f.name)=none:=Ep fun j hj=>a5 j (by omega)
  simp[fieldAt,U,hi,u,g,l,n,I,P,L,R,ag,Z,b1,a8,d,e,G,J,O,ax,ad])),trivial⟩
  omega
 have J:=lZ1 n
 refine Bx (kk co ?_)
 refine Asb rfl rfl fun g8 g9 df dh=>Arw (Ba Market.f_sales Bxa rfl Qn w a9) fun iv ej=>Arw (Ax Qn rfl ej) fun iw bo=>?_
 have ge:=Can bo
 refine l_v (Ci (el:=54) Bxk rfl bo) (l_v (Gl rfl rfl) (l_k dh (Bu (t:=decide ((m.sales.length:Int)>8)) rfl (fun C=>?_) (fun C=>?_))))
 ·have av:=lZ2 C
  refine w_q rfl rfl fun eq bu=>Au (iV 2) (l_k bu (Aj (Cah B) (Aq (y (rT (iV 2) ?_)))))
  have hF:Ew m=0:=by rw[Ew,if_neg (by omega),Fb fun j hj=>F j (by omega)]
  rw[Cf,Gr d,Gr e,Gr hF,Jc,if_pos (by omega)]
 have av:=lZ1 C
 refine Al (kk df ?_)
 refine Asb rfl rfl fun er es bv bx=>Au (iV 0) (l_k bx (Ao (Cc (fun mm ee dd ρ' σ'=>∃(s:Nat),(m.sales.length-s)=mm∧[]=dd∧bp=ρ'∧σ=σ'∧ee 1=pV k2∧ee 9=iV s∧(s≤m.sales.length)∧(∀j,j<s→Jb m j=0)∧True) (m:=_) ⟨0,rfl,rfl,rfl,rfl,a9,rfl,Hz _,fun j h=>absurd h (Uk _),trivial⟩ ?_)))
 rintro h2 ga _ _ _ ⟨s,rfl,rfl,rfl,rfl,al,am,h6,a4,_⟩
 refine Asb rfl rfl fun et eu bz c0=>l_v (Ah (v:=iV s) am) (Arw (Ba Market.f_sales Bxa rfl Qn w al) fun hc dp=>Arw (Ax Qn rfl dp) fun hd b5=>?_)
 have gf:=Can b5
 refine l_v (Ci (el:=54) Bxk rfl b5) (l_v (Da rfl rfl) (l_k c0 (Bu (t:=decide ((s:Int)<(m.sales.length:Int))) rfl (fun D=>?_) (fun D=>?_))))
 ·have aw:=lZ2 D
  refine Al (kk bz ?_)
  refine Ai fun ew c2=>Ao (w_q rfl rfl fun ex c3=>Arw (Ba Market.f_sales Bxa rfl Qn w al) fun he dq=>Arw (Ax Qn rfl dq) fun hg dr=>l_v (Ah (v:=iV s) am) ?_)
  obtain⟨x,a1⟩:=Ed (xs:=m.sales) (i:=s) (by omega)
  refine Arw (Ch s Bxk Up rfl dr (q:=(s:Int)) rfl rfl a1) fun hh ds=>Arw (Ax Up rfl ds) fun ek b6=>Arv (Ct Agb fun c4=>?_)
  refine Cx rfl (Dv (v:=ek) (a:=x) (c:=Akd) Up rfl rfl b6 rfl ?_)
  refine Bb (a:=x) b6 fun en a3 a6=>?_
  replace w:=At.mono a3 w
  refine Ary rfl rfl c3 fun ey ez c5 c6=>Arw (Ba Sale.f_grams Bxm rfl ty3 a6) fun hl b7=>?_
  have⟨gg,gh⟩:=At.rng b7
  refine l_v (Bc ty3 rfl b7) (Arv (Ce Bed Byr ?_))
  refine l_v (Iy rfl) (l_k c6 (Bu (t:=!(inR x.grams 0 1000000)) rfl (fun E=>?_) (fun E=>?_)))
  ·have az:=not_eq_t E
   have di:=Xb.1 az
   refine w_q rfl rfl fun f0 c7=>Au (iV 1) (l_k c7 (Aj (Cah (Cam B a3)) (Aq (y (rT (iV 1) ?_)))))
   have hF:Ew m=0:=by rw[Ew,if_neg (by omega),Fb fun j hj=>F j (by omega)]
   have hf:Jb m s=1:=by simp[Jb,a1,u,g,l,n,C,D,E,az,d,e,G,J,av,aw,di]
   rw[Cf,Gr d,Gr e,Gr hF,Jc,if_neg (by omega),Db a4 (by omega) hf (by omega)]
  have M:=not_eq_f E
  have dj:=Fz.1 M
  refine Al (kk c5 ?_)
  refine Asb rfl rfl fun f1 f2 c8 c9=>Arw (Ba Sale.f_sellers Bxm rfl Vh a6) fun hn dv=>Arw (Ax Vh rfl dv) fun ho b9=>?_
  have gi:=Can b9
  refine l_v (Ci (el:=3) Bxj rfl b9) (l_v (Ek rfl rfl) (l_k c9 (Bu (t:=(x.sellers.length:Int)==0) rfl (fun H=>?_) (fun H=>?_))))
  ·have b4:=Jr H
   refine w_q rfl rfl fun f3 ca=>Au (iV 2) (l_k ca (Aj (Cah (Cam B a3)) (Aq (y (rT (iV 2) ?_)))))
   have hF:Ew m=0:=by rw[Ew,if_neg (by omega),Fb fun j hj=>F j (by omega)]
   have hf:Jb m s=2:=by simp[Jb,a1,u,g,l,n,C,D,E,M,H,d,e,G,J,av,aw,dj,b4]
   rw[Cf,Gr d,Gr e,Gr hF,Jc,if_neg (by omega),Db a4 (by omega) hf (by omega)]
  have b4:=Jq H
  refine Al (kk c8 ?_)
  refine w_q rfl rfl fun f4 cb=>Au (iV 0) (l_k cb (Ao (Cc (fun mm ee dd ρ' σ'=>∃(q:Nat),(x.sellers.length-q)=mm∧[]=dd∧en=ρ'∧σ=σ'∧ee 1=pV k2∧ee 9=iV s∧ee 10=pV c4∧ee 11=iV q∧(q≤x.sellers.length)∧(∀j,j<q→Gt m x j=0)∧True) (m:=_) ⟨0,rfl,rfl,rfl,rfl,al,am,rfl,rfl,Hz _,fun j h=>absurd h (Uk _),trivial⟩ ?_)))
  rintro h3 gb _ _ _ ⟨q,rfl,rfl,rfl,rfl,ah,an,a0,T,h7,ac,_⟩
  refine Asb rfl rfl fun f5 f6 cc cd=>l_v (Ah (v:=iV q) T) (Arw (Ba Sale.f_sellers Bxm rfl Vh a6 a0) fun hr dw=>Arw (Ax Vh rfl dw) fun hs ba=>?_)
  have gj:=Can ba
  refine l_v (Ci (el:=3) Bxj rfl ba) (l_v (Da rfl rfl) (l_k cd (Bu (t:=decide ((q:Int)<(x.sellers.length:Int))) rfl (fun K=>?_) (fun K=>?_))))
  ·have dk:=lZ2 K
   refine Al (kk cc ?_)
   refine Ai fun f8 b2=>Ao (Ai fun f9 cf=>Ai fun fa cg=>Px (Cu 0 Aod rfl (Ba Sale.f_sellers Bxm rfl Vh a6 a0) fun ht dx=>Cu 1 (zT 2 9) rfl (Ax Vh rfl dx) fun hu dy=>Bw 2 (zT 3 8) rfl (Ah (v:=iV q) T) ?_))
   obtain⟨aj,a2⟩:=Ed (xs:=x.sellers) (i:=q) (by omega)
   refine Cu 3 (zT 4 7) rfl (Ch q Bxj ty3 rfl dy (q:=(q:Int)) rfl rfl a2) fun hv bb=>?_
   have⟨gk,gl⟩:=At.rng bb
   refine Bw 4 (zT 5 6) rfl (Bc ty3 rfl bb) (Jm 5 (zT 6 5) rfl (Ba Market.f_houses Bxa rfl Hw w ah) fun hx dz=>Jm 6 (zT 7 4) rfl (Ax Hw rfl dz) fun hy bc=>?_)
   have gm:=Can bc
   refine Dp 7 (zT 8 3) rfl (Ci (el:=9) Bwy rfl bc) (Dp 8 Aoc rfl (Ou rfl rfl (z:=(m.houses.length:Int)-1) wrE) (Hr 9 Aoa rfl (Bm Bed Byr rfl rfl ⟨rfl,rfl,rfl,trivial⟩ ⟨Cal,?_⟩)))
   refine Dp 10 Aob rfl (Iy rfl) (Ec rfl (kk cg ?_))
   refine Bu (t:=!(inR aj 0 ((m.houses.length:Int)-1))) rfl (fun N=>?_) (fun N=>?_)
   ·have ak:=not_eq_t N
    have ha:=Xb.1 ak
    refine w_q rfl rfl fun fb ch=>Au (iV 6) (l_k ch (Aj (Cah (Cam B a3)) (Aq (y (rT (iV 6) ?_)))))
    have hF:Ew m=0:=by rw[Ew,if_neg (by omega),Fb fun j hj=>F j (by omega)]
    have hq:Gt m x q=6:=by
     simp[Gt,a2,u,g,l,n,C,D,E,M,H,K,N,ak]
    have hf:Jb m s=6:=by simp only[Jb,a1,u,g,l,n,C,D,E,M,H,K,N,ak,if_true];rw[if_neg (by omega),Db ac (by omega) hq (by omega)]
    rw[Cf,Gr d,Gr e,Gr hF,Jc,if_neg (by omega),Db a4 (by omega) hf (by omega)]
   have a7:=not_eq_f N
   have hb:=Fz.1 a7
   refine Al (kk cf ?_)
   refine Ai fun fc b3=>Px (Dp 0 (zT 1 15) rfl (Ah (v:=iV q) T) (Dp 1 (zT 2 14) rfl (Gl rfl rfl) (Dp 2 (zT 3 13) rfl (Ah (v:=.bool (decide ((q:Int)>0))) rfl) (Akk (decide ((q:Int)>0)) (fun b=>?_) (fun b=>?_)))))
   ·have dl:=lZ2 b
    refine Iu 3 (zT 4 12) rfl Cal (gY rfl b) (Ba Sale.f_sellers Bxm rfl Vh a6 a0) fun hz e0=>Iu 4 (zT 5 11) rfl Cal (gY rfl b) (Ax Vh rfl e0) fun i0 e1=>Afn 5 (zT 6 10) rfl Cal (gY rfl b) (Ah (v:=iV q) T) (Iu 6 (zT 7 9) rfl Cal (gY rfl b) (Ch q Bxj ty3 rfl e1 (q:=(q:Int)) rfl rfl a2) fun i1 bd=>?_)
    have⟨gn,go⟩:=At.rng bd
    refine Afn 7 (zT 8 8) rfl Cal (gY rfl b) (Bc ty3 rfl bd) (Iu 8 (zT 9 7) rfl Cal (gY rfl b) (Ba Sale.f_sellers Bxm rfl Vh a6 a0) fun i2 e2=>Iu 9 (zT 10 6) rfl Cal (gY rfl b) (Ax Vh rfl e2) fun i3 e3=>Jg 10 (zT 11 5) rfl Cal (gY rfl b) (Ah (v:=iV q) T) (Jg 11 (zT 12 4) rfl Cal (gY rfl b) (Ou rfl rfl (z:=(q:Int)-1) wrE) ?_))
    obtain⟨af,ar⟩:=Ed (xs:=x.sellers) (i:=(((q:Int)-1)).toNat) (by omega)
    refine Rh 12 (zT 13 3) rfl Cal (gY rfl b) (Ch ((((q:Int)-1)).toNat) Bxj ty3 rfl e3 (q:=(q:Int)-1) rfl (by omega) ar) fun i4 be=>?_
    have⟨gp,gq⟩:=At.rng be
    refine Jg 13 (zT 14 2) rfl Cal (gY rfl b) (Bc ty3 rfl be) (Jg 14 (zT 15 1) rfl Cal (gY rfl b) (Uz rfl rfl) (Dp 15 (zT 16 0) rfl (Bt rfl b (v:=.bool (decide (aj≤af))) rfl) (Ec rfl (kk b3 ?_))))
    refine Bu (t:=decide (aj≤af)) rfl (fun W=>?_) (fun W=>?_)
    ·have dm:=lZ2 W
     refine w_q rfl rfl fun ff ck=>Au (iV 7) (l_k ck (Aj (Cah (Cam B a3)) (Aq (y (rT (iV 7) ?_)))))
     have hF:Ew m=0:=by rw[Ew,if_neg (by omega),Fb fun j hj=>F j (by omega)]
     have hq:Gt m x q=7:=by
      have hp:x.sellers[q-1]?=some af:=by rw[←ar];congr 1;omega
      have h0:0<q:=by omega
      simp only[Gt,a2,if_pos h0,hp,u,g,l,n,C,D,E,M,H,K,N,a7,b,W,if_true];first|rw[if_pos (by omega)]|rw[if_neg (by omega)]
     have hf:Jb m s=7:=by simp only[Jb,a1,u,g,l,n,C,D,E,M,H,K,N,a7,b,W,if_true];rw[if_neg (by omega),Db ac (by omega) hq (by omega)]
     rw[Cf,Gr d,Gr e,Gr hF,Jc,if_neg (by omega),Db a4 (by omega) hf (by omega)]
    have dm:=lZ1 W
    refine Al (kk b2 ?_)
    refine Ag rfl rfl (l_v (Ah (v:=iV q) T) (l_v (Dm (((q+1):Nat):Int)) (Au (iV ((q+1):Nat)) (Ac ?_))))
    refine⟨_,?_,((q+1)),rfl,rfl,rfl,rfl,ah,an,a0,rfl,(by omega),(Eg ac (by
 have hp:x.sellers[q-1]?=some af:=by rw[←ar];congr 1;omega
 have h0:0<q:=by omega
 simp only[Gt,a2,if_pos h0,hp,u,g,l,n,C,D,E,M,H,K,N,a7,b,W,if_true];first|rw[if_pos (by omega)]|rw[if_neg (by omega)])),trivial⟩
    omega
   have dl:=lZ1 b
   refine Yo 3 (zT 4 12) rfl Cal (gN rfl b) (Yo 4 (zT 5 11) rfl Cal (gN rfl b) (Yo 5 (zT 6 10) rfl Cal (gN rfl b) (Yo 6 (zT 7 9) rfl Cal (gN rfl b) (Yo 7 (zT 8 8) rfl Cal (gN rfl b) (Yo 8 (zT 9 7) rfl Cal (gN rfl b) (Yo 9 (zT 10 6) rfl Cal (gN rfl b) (Zt 10 (zT 11 5) rfl Cal (gN rfl b) (Zt 11 (zT 12 4) rfl Cal (gN rfl b) (Zt 12 (zT 13 3) rfl Cal (gN rfl b) (Zt 13 (zT 14 2) rfl Cal (gN rfl b) (Zt 14 (zT 15 1) rfl Cal (gN rfl b) (Dp 15 (zT 16 0) rfl (Bn rfl b (v:=bF) rfl) (Ec rfl (kk b3 ?_))))))))))))))
   refine Cg rfl rfl (Al (kk b2 ?_))
   refine Ag rfl rfl (l_v (Ah (v:=iV q) T) (l_v (Dm (((q+1):Nat):Int)) (Au (iV ((q+1):Nat)) (Ac ?_))))
   refine⟨_,?_,((q+1)),rfl,rfl,rfl,rfl,ah,an,a0,rfl,(by omega),(Eg ac (by
 have h0:¬0<q:=by omega
 simp[Gt,a2,if_neg h0,u,g,l,n,C,D,E,M,H,K,N,a7,b])),trivial⟩
   omega
  have dk:=lZ1 K
  refine Bx (kk c2 ?_)
  refine Ag rfl rfl (l_v (Ah (v:=iV s) an) (l_v (Dm (((s+1):Nat):Int)) (Au (iV ((s+1):Nat)) (Bj (Cah a3) (Ac ?_)))))
  refine⟨_,?_,((s+1)),rfl,rfl,rfl,rfl,ah,rfl,(by omega),(Eg a4 (by
  simp only[Jb,a1,u,g,l,n,C,D,E,M,H,K,if_true];rw[if_neg (by omega),Fb fun j hj=>ac j (by omega)])),trivial⟩
  omega
 have aw:=lZ1 D
 refine Bx (kk bv ?_)
 refine w_q rfl rfl fun fg cl=>Au (iV 0) (l_k cl (Aj (Cah B) (Aq (y (rT (iV 0) ?_)))))
 have hF:Ew m=0:=by rw[Ew,if_neg (by omega),Fb fun j hj=>F j (by omega)]
 rw[Cf,Gr d,Gr e,Gr hF,Jc,if_neg (by omega),Fb fun j hj=>a4 j (by omega)]
end
section
open Go
variable{mn:Bool}{X:Frame→List Frame→Ro→Own→Cy→Prop}{ρ:Ro}{σ:Own}
theorem Agv{a b:List Int}{va vb}(ra:Val ρ va a)(rb:Val ρ vb b):CallsH (CX mn X) 27 #[va,vb] ρ σ (rP ρ σ (.bool (decide (a=b)))):=by
 refine Bq 26 [4] Tryz.func27 rfl fun Q n a7=>w_q rfl rfl fun R D=>Au bF (Ary rfl rfl D fun Y K3 I L=>Av va ?_)
 have g4:=Can ra
 refine l_v (Ci (el:=3) Bxj rfl ra) (Av vb ?_)
 have g5:=Can rb
 refine l_v (Ci (el:=3) Bxj rfl rb) (l_v (Dg rfl rfl) (l_k L (Bu (t:=(a.length:Int) != (b.length:Int)) rfl (fun g=>?_) (fun g=>?_))))
 ·have x:=Ls g
  refine w_q rfl rfl fun K7 M=>Au bF (l_k M (Aq (n (rT bF ?_))))
  rw[Jw (fun h=>x (by rw[h]))]
 have x:=Jh g
 refine Al (kk I ?_)
 refine Asb rfl rfl fun K8 K9 N O=>Au (iV 0) (l_k O (Ao (Cc (fun mm ee dd ρ' σ'=>∃(i:Nat),(a.length-i)=mm∧[]=dd∧ρ=ρ'∧σ=σ'∧ee 0=va∧ee 1=vb∧ee 5=iV i∧(i≤a.length)∧(∀j,j<i→a[j]?=b[j]?)∧True) (m:=_) ⟨0,rfl,rfl,rfl,rfl,rfl,rfl,rfl,Hz _,fun j h=>absurd h (Uk _),trivial⟩ ?_)))
 rintro a8 a1 _ _ _ ⟨i,rfl,rfl,rfl,rfl,k,u,c,a9,w,_⟩
 refine Asb rfl rfl fun T U E F=>l_v (Ah (v:=iV i) c) (l_v (Ah (v:=va) k) ?_)
 have a2:=Can ra
 refine l_v (Ci (el:=3) Bxj rfl ra) (l_v (Da rfl rfl) (l_k F (Bu (t:=decide ((i:Int)<(a.length:Int))) rfl (fun e=>?_) (fun e=>?_))))
 ·have P:=lZ2 e
  refine Al (kk E ?_)
  refine Ai fun V G=>Ao (Ai fun W H=>Px (Bw 0 zZ0 rfl (Ah (v:=va) k) (Bw 1 zZ1 rfl (Ah (v:=iV i) c) ?_)))
  obtain⟨B,l⟩:=Ed (xs:=a) (i:=i) (by omega)
  refine Cu 2 Anr rfl (Ch i Bxj ty3 rfl ra (q:=(i:Int)) rfl rfl l) fun aa y=>?_
  have⟨a3,a4⟩:=At.rng y
  refine Bw 3 Ans rfl (Bc ty3 rfl y) (Bw 4 Ant rfl (Ah (v:=vb) u) (Dp 5 zZ8 rfl (Ah (v:=iV i) c) ?_))
  obtain⟨C,d⟩:=Ed (xs:=b) (i:=i) (by omega)
  refine Jm 6 zZ2 rfl (Ch i Bxj ty3 rfl rb (q:=(i:Int)) rfl rfl d) fun ab z=>?_
  have⟨a5,a6⟩:=At.rng z
  refine Dp 7 zZ3 rfl (Bc ty3 rfl z) (Dp 8 zZ4 rfl (Dg rfl rfl) (Ec rfl (kk H ?_)))
  refine Bu (t:=B != C) rfl (fun f=>?_) (fun f=>?_)
  ·have p:=Ls f
   refine w_q rfl rfl fun Z J=>Au bF (l_k J (Aq (n (rT bF ?_))))
   rw[Jw (fun h=>by subst h;rw[l]at d;injection d with h1;exact p h1)]
  have p:=Jh f
  refine Al (kk G ?_)
  refine Ag rfl rfl (l_v (Ah (v:=iV i) c) (l_v (Dm (((i+1):Nat):Int)) (Au (iV ((i+1):Nat)) (Ac ?_))))
  refine⟨_,?_,(i+1),rfl,rfl,rfl,rfl,k,u,rfl,(by omega),(Eg w (by rw[l,d,p])),trivial⟩
  omega
 have P:=lZ1 e
 refine Bx (kk N ?_)
 refine w_q rfl rfl fun a0 K=>Au bT (l_k K (Aq (n (rT bT ?_))))
 rw[Oe (Aif (by omega) fun j hj=>w j (by omega))]
theorem Ol{a b:List Int}{va vb}(ra:Val ρ va a)(rb:Val ρ vb b):CallsH (CX mn X) 25 #[va,vb] ρ σ (rP ρ σ (.bool (decide (a=b)))):=by
 refine Bq 26 [4] Tryz.func25 rfl fun Q n a7=>w_q rfl rfl fun R D=>Au bF (Ary rfl rfl D fun Y K3 I L=>Av va ?_)
 have g4:=Can ra
 refine l_v (Ci (el:=75) Bxq rfl ra) (Av vb ?_)
 have g5:=Can rb
 refine l_v (Ci (el:=75) Bxq rfl rb) (l_v (Dg rfl rfl) (l_k L (Bu (t:=(a.length:Int) != (b.length:Int)) rfl (fun g=>?_) (fun g=>?_))))
 ·have x:=Ls g
  refine w_q rfl rfl fun K7 M=>Au bF (l_k M (Aq (n (rT bF ?_))))
  rw[Jw (fun h=>x (by rw[h]))]
 have x:=Jh g
 refine Al (kk I ?_)
 refine Asb rfl rfl fun K8 K9 N O=>Au (iV 0) (l_k O (Ao (Cc (fun mm ee dd ρ' σ'=>∃(i:Nat),(a.length-i)=mm∧[]=dd∧ρ=ρ'∧σ=σ'∧ee 0=va∧ee 1=vb∧ee 5=iV i∧(i≤a.length)∧(∀j,j<i→a[j]?=b[j]?)∧True) (m:=_) ⟨0,rfl,rfl,rfl,rfl,rfl,rfl,rfl,Hz _,fun j h=>absurd h (Uk _),trivial⟩ ?_)))
 rintro a8 a1 _ _ _ ⟨i,rfl,rfl,rfl,rfl,k,u,c,a9,w,_⟩
 refine Asb rfl rfl fun T U E F=>l_v (Ah (v:=iV i) c) (l_v (Ah (v:=va) k) ?_)
 have a2:=Can ra
 refine l_v (Ci (el:=75) Bxq rfl ra) (l_v (Da rfl rfl) (l_k F (Bu (t:=decide ((i:Int)<(a.length:Int))) rfl (fun e=>?_) (fun e=>?_))))
 ·have P:=lZ2 e
  refine Al (kk E ?_)
  refine Ai fun V G=>Ao (Ai fun W H=>Px (Bw 0 zZ0 rfl (Ah (v:=va) k) (Bw 1 zZ1 rfl (Ah (v:=iV i) c) ?_)))
  obtain⟨B,l⟩:=Ed (xs:=a) (i:=i) (by omega)
  refine Cu 2 Anr rfl (Ch i Bxq Pi rfl ra (q:=(i:Int)) rfl rfl l) fun aa y=>?_
  have⟨a3,a4⟩:=At.rng y
  refine Bw 3 Ans rfl (Bc Pi rfl y) (Bw 4 Ant rfl (Ah (v:=vb) u) (Dp 5 zZ8 rfl (Ah (v:=iV i) c) ?_))
  obtain⟨C,d⟩:=Ed (xs:=b) (i:=i) (by omega)
  refine Jm 6 zZ2 rfl (Ch i Bxq Pi rfl rb (q:=(i:Int)) rfl rfl d) fun ab z=>?_
  have⟨a5,a6⟩:=At.rng z
  refine Dp 7 zZ3 rfl (Bc Pi rfl z) (Dp 8 zZ4 rfl (Dg rfl rfl) (Ec rfl (kk H ?_)))
  refine Bu (t:=B != C) rfl (fun f=>?_) (fun f=>?_)
  ·have p:=Ls f
   refine w_q rfl rfl fun Z J=>Au bF (l_k J (Aq (n (rT bF ?_))))
   rw[Jw (fun h=>by subst h;rw[l]at d;injection d with h1;exact p h1)]
  have p:=Jh f
  refine Al (kk G ?_)
  refine Ag rfl rfl (l_v (Ah (v:=iV i) c) (l_v (Dm (((i+1):Nat):Int)) (Au (iV ((i+1):Nat)) (Ac ?_))))
  refine⟨_,?_,(i+1),rfl,rfl,rfl,rfl,k,u,rfl,(by omega),(Eg w (by rw[l,d,p])),trivial⟩
  omega
 have P:=lZ1 e
 refine Bx (kk N ?_)
 refine w_q rfl rfl fun a0 K=>Au bT (l_k K (Aq (n (rT bT ?_))))
 rw[Oe (Aif (by omega) fun j hj=>w j (by omega))]
end
section
open Go
variable{mn:Bool}{X:Frame→List Frame→Ro→Own→Cy→Prop}{ρ:Ro}{σ:Own}
theorem Ya{l:List UInt8}{vl f:Value}{p:UInt8→Bool}(rl:Val ρ vl l)(hf:Su f p):CallsH (CX mn X) 151 #[vl,f] ρ σ (rP ρ σ (iV (Oi l p))):=by
 refine Bq 19 [4] Tryz.func151 rfl fun Q y a0=>w_q rfl rfl fun N B=>Au (iV 0) (Ary rfl rfl B fun U V G H=>Av vl ?_)
 have g4:=Can rl
 refine l_v (Ci (el:=5) Bxe rfl rl) (Av (iV 0) (l_k H (Ao (Cc (fun mm ee dd ρ' σ'=>∃(i:Nat),(l.length-i)=mm∧[]=dd∧ρ=ρ'∧σ=σ'∧ee 0=vl∧ee 1=f∧ee 7=(iV (l.length:Int))∧ee 8=iV i∧(i≤l.length)∧(∀j,j<i→atP l p j=false)∧True) (m:=_) ⟨0,rfl,rfl,rfl,rfl,rfl,rfl,rfl,rfl,Hz _,fun j h=>absurd h (Uk _),trivial⟩ ?_))))
 rintro m5 e5 _ _ _ ⟨i,rfl,rfl,rfl,rfl,u,w,x,e,a1,k,_⟩
 refine w_q rfl rfl fun W I=>l_v (Da e x) (Asa I fun Y J=>Bu (t:=decide ((i:Int)<(l.length:Int))) rfl (fun b=>?_) (fun b=>?_))
 ·have L:=lZ2 b
  refine Al (kk J ?_)
  refine Ai fun Z K=>Ao (w_q rfl rfl fun O C=>l_v (Ah (v:=iV i) e) (Au (iV i) (Arx rfl rfl C fun P D=>l_v (Ah (v:=f) w) (l_v (Ah (v:=vl) u) (Av (iV i) ?_)))))
  obtain⟨c,g⟩:=Ed (xs:=l) (i:=i) (by omega)
  refine Arw (Ch i Bxe ty5 rfl rl (q:=(i:Int)) rfl rfl g) fun a2 M=>l_v (Aaf ty5 rfl M) (Arv (Ajp (pr:=p) (a:=c) (v:=.int .u8 (c.toNat:Int)) hf rfl rfl (Uq.2 rfl) ?_))
  refine l_k D (Bu (t:=p c) rfl (fun d=>?_) (fun d=>?_))
  ·refine w_q rfl rfl fun R E=>Av (iV i) (Au (iV i) (l_k E (Aq (y (rT (iV i) ?_)))))
   have hi:=Fh (n:=l.length) k (by omega) (show atP l p i=true by simp only[atP,g,b,d])
   simp only[Oi,hi]
  refine Al (kk K ?_)
  refine Ag rfl rfl (l_v (Br e rfl (z:=(((i+1):Nat):Int)) wrE) (Av (iV ((i+1):Nat)) (Ac ?_)))
  refine⟨_,?_,(i+1),rfl,rfl,rfl,rfl,u,w,x,rfl,(by omega),(Eg k (by simp only[atP,g,b,d])),trivial⟩
  omega
 have L:=lZ1 b
 refine Bx (kk G ?_)
 refine w_q rfl rfl fun T F=>Au (iV (-1)) (l_k F (Aq (y (rT (iV (-1)) ?_))))
 have hn:=Ep (n:=l.length) fun j hj=>k j (by omega)
 simp only[Oi,hn]
theorem Yb{l:List Span}{vl f:Value}{p:Span→Bool}(rl:Val ρ vl l)(hf:Su f p):CallsH (CX mn X) 150 #[vl,f] ρ σ (rP ρ σ (iV (Oi l p))):=by
 refine Bq 19 [4] Tryz.func150 rfl fun Q y a0=>w_q rfl rfl fun P B=>Au (iV 0) (Ary rfl rfl B fun W Y G H=>Av vl ?_)
 have g4:=Can rl
 refine l_v (Ci (el:=48) Bxi rfl rl) (Av (iV 0) (l_k H (Ao (Cc (fun mm ee dd ρ' σ'=>∃(i:Nat),(l.length-i)=mm∧[]=dd∧ρ=ρ'∧σ=σ'∧ee 0=vl∧ee 1=f∧ee 7=(iV (l.length:Int))∧ee 8=iV i∧(i≤l.length)∧(∀j,j<i→atP l p j=false)∧True) (m:=_) ⟨0,rfl,rfl,rfl,rfl,rfl,rfl,rfl,rfl,Hz _,fun j h=>absurd h (Uk _),trivial⟩ ?_))))
 rintro m5 e5 _ _ _ ⟨i,rfl,rfl,rfl,rfl,u,w,x,d,a1,g,_⟩
 refine w_q rfl rfl fun Z I=>l_v (Da d x) (Asa I fun K7 J=>Bu (t:=decide ((i:Int)<(l.length:Int))) rfl (fun b=>?_) (fun b=>?_))
 ·have L:=lZ2 b
  refine Al (kk J ?_)
  refine Ai fun K9 K=>Ao (w_q rfl rfl fun R C=>l_v (Ah (v:=iV i) d) (Au (iV i) (Arx rfl rfl C fun T D=>l_v (Ah (v:=f) w) (l_v (Ah (v:=vl) u) (Av (iV i) ?_)))))
  obtain⟨k,e⟩:=Ed (xs:=l) (i:=i) (by omega)
  refine Arw (Ch i Bxi Mx rfl rl (q:=(i:Int)) rfl rfl e) fun a2 M=>Arw (Ax Mx rfl M) fun O N=>Arv (Ajp (pr:=p) (a:=k) (v:=O) hf rfl rfl N ?_)
  refine l_k D (Bu (t:=p k) rfl (fun c=>?_) (fun c=>?_))
  ·refine w_q rfl rfl fun U E=>Av (iV i) (Au (iV i) (l_k E (Aq (y (rT (iV i) ?_)))))
   have hi:=Fh (n:=l.length) g (by omega) (show atP l p i=true by simp only[atP,e,b,c])
   simp only[Oi,hi]
  refine Al (kk K ?_)
  refine Ag rfl rfl (l_v (Br d rfl (z:=(((i+1):Nat):Int)) wrE) (Av (iV ((i+1):Nat)) (Ac ?_)))
  refine⟨_,?_,(i+1),rfl,rfl,rfl,rfl,u,w,x,rfl,(by omega),(Eg g (by simp only[atP,e,b,c])),trivial⟩
  omega
 have L:=lZ1 b
 refine Bx (kk G ?_)
 refine w_q rfl rfl fun V F=>Au (iV (-1)) (l_k F (Aq (y (rT (iV (-1)) ?_))))
 have hn:=Ep (n:=l.length) fun j hj=>g j (by omega)
 simp only[Oi,hn]
theorem Ta{l:List UInt8}{vl f p}(rl:Val ρ vl l)(hf:Su f p):CallsH (CX mn X) 134 #[vl,f] ρ σ (rP ρ σ (.bool (l.any p))):=by
 refine Bq 9 [4] Tryz.func134 rfl fun Q a g=>w_q rfl rfl fun d b=>Au bF (Arx rfl rfl b fun e c=>Av vl (Av f (Arv (Ce (Ya rl hf) Tryz.func151 ?_))))
 refine l_v (Uy rfl rfl) (Au (.bool (decide (Oi l p≥0))) (l_k c (Aq (a (rT (.bool (decide (Oi l p≥0))) ?_)))))
 rw[Yq]
theorem Tb{l:List Span}{vl f p}(rl:Val ρ vl l)(hf:Su f p):CallsH (CX mn X) 132 #[vl,f] ρ σ (rP ρ σ (.bool (l.any p))):=by
 refine Bq 9 [4] Tryz.func132 rfl fun Q a g=>w_q rfl rfl fun d b=>Au bF (Arx rfl rfl b fun e c=>Av vl (Av f (Arv (Ce (Yb rl hf) Tryz.func150 ?_))))
 refine l_v (Uy rfl rfl) (Au (.bool (decide (Oi l p≥0))) (l_k c (Aq (a (rT (.bool (decide (Oi l p≥0))) ?_)))))
 rw[Yq]
theorem Ahe{c:UInt8} :CallsH (CX mn X) 135 #[.int .u8 (c.toNat:Int)] ρ σ (rP ρ σ (.bool (Ov (c.toNat:Int)))):=by
 refine Bq 21 [2] Tryz.func135 rfl fun Q h w=>w_q rfl rfl fun t j=>Au bF (Arx rfl rfl j fun u i=>Av (.int .u8 (c.toNat:Int)) (l_v (Da rfl rfl) (Av (.bool (decide ((c.toNat:Int)<97))) (Cn (decide ((c.toNat:Int)<97)) (fun b=>?_) (fun b=>?_)))))
 ·have k:=lZ2 b
  refine Ap (gN rfl b) (Ap (gN rfl b) (l_v (Bt rfl b (v:=bT) rfl) (Av bT (l_M (.int .u8 (c.toNat:Int)) (gY rfl rfl) rfl (Aa (gY rfl rfl) (Da rfl rfl) (l_M (.bool (decide ((c.toNat:Int)<48))) (gY rfl rfl) rfl (Cn (decide ((c.toNat:Int)<48)) (fun d=>?_) (fun d=>?_))))))))
  ·have l:=lZ2 d
   refine Ap (gN rfl d) (Ap (gN rfl d) (Aa (gY rfl rfl) (Bt rfl d (v:=bT) rfl) (l_v (Bt rfl rfl (v:=bT) rfl) (Av bT (l_M (.int .u8 (c.toNat:Int)) (gY rfl rfl) rfl (Aa (gY rfl rfl) (Dg rfl rfl) (l_v (Bt rfl rfl (v:=.bool ((c.toNat:Int) != 45)) rfl) (Au (.bool ((c.toNat:Int) != 45)) (l_k i (Aq (h (rT (.bool ((c.toNat:Int) != 45)) ?_))))))))))))
   simp only[Ov,b,d,bZl]
  have l:=lZ1 d
  refine l_M (.int .u8 (c.toNat:Int)) (gY rfl d) rfl (Aa (gY rfl d) (Gl rfl rfl) (Aa (gY rfl rfl) (Bn rfl d (v:=.bool (decide ((c.toNat:Int)>57))) rfl) (l_v (Bt rfl rfl (v:=.bool (decide ((c.toNat:Int)>57))) rfl) (Av (.bool (decide ((c.toNat:Int)>57))) (Cn (decide ((c.toNat:Int)>57)) (fun f=>?_) (fun f=>?_))))))
  ·have m:=lZ2 f
   refine l_M (.int .u8 (c.toNat:Int)) (gY rfl f) rfl (Aa (gY rfl f) (Dg rfl rfl) (l_v (Bt rfl f (v:=.bool ((c.toNat:Int) != 45)) rfl) (Au (.bool ((c.toNat:Int) != 45)) (l_k i (Aq (h (rT (.bool ((c.toNat:Int) != 45)) ?_)))))))
   simp only[Ov,b,d,f,bZl]
  have m:=lZ1 f
  refine Ap (gN rfl f) (Ap (gN rfl f) (l_v (Bn rfl f (v:=bF) rfl) (Au bF (l_k i (Aq (h (rT bF ?_)))))))
  simp only[Ov,b,d,f,bZl]
 have k:=lZ1 b
 refine l_M (.int .u8 (c.toNat:Int)) (gY rfl b) rfl (Aa (gY rfl b) (Gl rfl rfl) (l_v (Bn rfl b (v:=.bool (decide ((c.toNat:Int)>122))) rfl) (Av (.bool (decide ((c.toNat:Int)>122))) (Cn (decide ((c.toNat:Int)>122)) (fun a=>?_) (fun a=>?_)))))
 ·have n:=lZ2 a
  refine l_M (.int .u8 (c.toNat:Int)) (gY rfl a) rfl (Aa (gY rfl a) (Da rfl rfl) (l_M (.bool (decide ((c.toNat:Int)<48))) (gY rfl a) rfl (Cn (decide ((c.toNat:Int)<48)) (fun e=>?_) (fun e=>?_))))
  ·have p:=lZ2 e
   refine Ap (gN rfl e) (Ap (gN rfl e) (Aa (gY rfl a) (Bt rfl e (v:=bT) rfl) (l_v (Bt rfl a (v:=bT) rfl) (Av bT (l_M (.int .u8 (c.toNat:Int)) (gY rfl rfl) rfl (Aa (gY rfl rfl) (Dg rfl rfl) (l_v (Bt rfl rfl (v:=.bool ((c.toNat:Int) != 45)) rfl) (Au (.bool ((c.toNat:Int) != 45)) (l_k i (Aq (h (rT (.bool ((c.toNat:Int) != 45)) ?_))))))))))))
   simp only[Ov,b,a,e,bZl]
  have p:=lZ1 e
  refine l_M (.int .u8 (c.toNat:Int)) (gY rfl e) rfl (Aa (gY rfl e) (Gl rfl rfl) (Aa (gY rfl a) (Bn rfl e (v:=.bool (decide ((c.toNat:Int)>57))) rfl) (l_v (Bt rfl a (v:=.bool (decide ((c.toNat:Int)>57))) rfl) (Av (.bool (decide ((c.toNat:Int)>57))) (Cn (decide ((c.toNat:Int)>57)) (fun g=>?_) (fun g=>?_))))))
  ·have q:=lZ2 g
   refine l_M (.int .u8 (c.toNat:Int)) (gY rfl g) rfl (Aa (gY rfl g) (Dg rfl rfl) (l_v (Bt rfl g (v:=.bool ((c.toNat:Int) != 45)) rfl) (Au (.bool ((c.toNat:Int) != 45)) (l_k i (Aq (h (rT (.bool ((c.toNat:Int) != 45)) ?_)))))))
   simp only[Ov,b,a,e,g,bZl]
  have q:=lZ1 g
  refine Ap (gN rfl g) (Ap (gN rfl g) (l_v (Bn rfl g (v:=bF) rfl) (Au bF (l_k i (Aq (h (rT bF ?_)))))))
  simp only[Ov,b,a,e,g,bZl]
 have n:=lZ1 a
 refine Ap (gN rfl a) (Ap (gN rfl a) (Ap (gN rfl a) (Ap (Jf rfl rfl rfl) (Ap (Jf rfl rfl rfl) (Ap (gN rfl a) (l_v (Bn rfl a (v:=bF) rfl) (Av bF (Ap (gN rfl rfl) (Ap (gN rfl rfl) (l_v (Bn rfl rfl (v:=bF) rfl) (Au bF (l_k i (Aq (h (rT bF ?_)))))))))))))))
 simp only[Ov,b,a,bZl]
theorem Aks{s}(hs:s.size<2^60):CallsH (CX mn X) 112 #[.string s] ρ σ (rP ρ σ (.bool (Hg s))):=by
 refine Bq 21 [2] Tryz.func112 rfl fun Q h P=>w_q rfl rfl fun F n=>Au bF (Ary rfl rfl n fun J K y j=>Av (.string s) (l_v (Afz Bwz (s:=s) rfl) (Arv (Ce Jl Bys ?_))))
 refine l_v (Iy rfl) (Av (.bool (!(inR (s.size:Int) 1 14))) (Cn (!(inR (s.size:Int) 1 14)) (fun a=>?_) (fun a=>?_)))
 ·have k:=not_eq_t a
  have T:=Xb.1 k
  refine Ap (gN rfl a) (Ap (gN rfl a) (Ap (gN rfl a) (l_v (Bt rfl a (v:=bT) rfl) (Av bT (Ap (gN rfl rfl) (Ap (gN rfl rfl) (Ap (gN rfl rfl) (l_v (Bt rfl rfl (v:=bT) rfl) (l_k j (Co rfl rfl (w_q rfl rfl fun L z=>Au bF (l_k z (Aq (h (rT bF ?_)))))))))))))))
  simp only[Hg,Qb,a,k,bZl]
 have g:=not_eq_f a
 have U:=Fz.1 g
 refine l_M (.string s) (gY rfl a) rfl ?_
 obtain⟨d,f⟩:=Alc (s:=s) (i:=0) (by omega)
 refine Aa (gY rfl a) (Ace 0 d Bwz rfl (q:=0) rfl rfl f) (Aa (gY rfl a) (Da rfl rfl) (l_v (Bn rfl a (v:=.bool (decide ((d.toNat:Int)<97))) rfl) (Av (.bool (decide ((d.toNat:Int)<97))) (Cn (decide ((d.toNat:Int)<97)) (fun b=>?_) (fun b=>?_)))))
 ·have D:=lZ2 b
  refine Ap (gN rfl b) (Ap (gN rfl b) (Ap (gN rfl b) (l_v (Bt rfl b (v:=bT) rfl) (l_k j (Co rfl rfl (w_q rfl rfl fun G p=>Au bF (l_k p (Aq (h (rT bF ?_))))))))))
  simp only[Hg,Qb,f,a,g,b,bZl]
 have D:=lZ1 b
 refine l_M (.string s) (gY rfl b) rfl (Aa (gY rfl b) (Ace 0 d Bwz rfl (q:=0) rfl rfl f) (Aa (gY rfl b) (Gl rfl rfl) (l_v (Bn rfl b (v:=.bool (decide ((d.toNat:Int)>122))) rfl) (l_k j (Bu (t:=decide ((d.toNat:Int)>122)) rfl (fun e=>?_) (fun e=>?_))))))
 ·have C:=lZ2 e
  refine w_q rfl rfl fun H u=>Au bF (l_k u (Aq (h (rT bF ?_))))
  simp only[Hg,Qb,f,a,g,b,e,bZl]
 have C:=lZ1 e
 refine Al (kk y ?_)
 refine w_q rfl rfl fun I w=>Av (.string s) (Arv (Amd (s:=s) Bwz Bxe Bxp rfl (by omega) fun R M N V O l m=>?_))
 refine Alh l m (by omega) fun W B E=>Arv (Ce (Ta E (⟨135,Tryz.f135,[],rfl,Tryz.func135,rfl,rfl,fun mn X ρ σ v x hv=>by rw[Uq.1 hv];exact Ahe⟩:Su (.func (.func 135) #[] #[]) (fun c:UInt8=>Ov (c.toNat:Int)))) Tryz.func134 ?_)
 refine l_v (Iy rfl) (Au (.bool (!(s.data.toList.any (fun c:UInt8=>Ov (c.toNat:Int))))) (l_k w (Aj (Cah B) (Aq (h ⟨rfl,rfl,eT (.bool (!(s.data.toList.any (fun c:UInt8=>Ov (c.toNat:Int))))) ?_⟩)))))
 rw[Akl,Bool.not_not]
 simp only[Hg,Qb,f,a,g,b,e,bZl]
theorem Wx{r i clock es pr s}(hs:Mu es pr)(hi:σ[i]?=some (r,.obj (.map es clock)))(hz:s.size<2^60):CallsH (CX mn X) 81 #[.map (some r),.string s] ρ σ (fun w ρ' σ'=>ρ'=ρ∧((w = .int .i64 4∧Hg s=false∧σ'=σ)∨(w = .int .i64 5∧Hg s=true∧pr s=true∧σ'=σ)∨(w=z0∧Hg s=true∧pr s=false∧∃es' ck',Mu es' (fun k'=>k'.toList==s.toList||pr k')∧σ'=σ.set i (r,.obj (.map es' ck'))))):=by
 refine Bq 15 [4] Caf rfl fun Q c G=>w_q rfl rfl fun p e=>Au (iV 0) (Asa e fun x j=>Ao (w_q rfl rfl fun y l=>Av (.string s) (Arv (Ce (Aks (by omega)) Tryz.func112 ?_))))
 refine l_v (Iy rfl) (Au (.bool (!(Hg s))) (l_k l (Bu (t:=!(Hg s)) rfl (fun a=>?_) (fun a=>?_))))
 ·have C:=not_eq_t a
  refine w_q rfl rfl fun z m=>Au (iV 4) (l_k m (Aq (c ⟨rfl,.inl ⟨rfl,by simpa using a,rfl⟩⟩)))
 have D:=not_eq_f a
 refine w_q rfl rfl fun B n=>Av (.map (some r)) (Av (.string s) (Arv (Xq (i:=i) (kt:=9) (et:=4) (k:=s) (pr:=pr) Tryz.underlying162 Bwz zr4 hs rfl rfl hi ?_)))
 refine Au (.bool (pr s)) (l_k n (Bu (t:=pr s) rfl (fun b=>?_) (fun b=>?_)))
 ·refine w_q rfl rfl fun q f=>Au (iV 5) (l_k f (Aq (c ⟨rfl,.inr (.inl ⟨rfl,by simpa using a,b,rfl⟩)⟩)))
 refine Al (kk j ?_)
 refine w_q rfl rfl fun u g=>Av (.map (some r)) (Av (.string s) (Cx rfl (Afq (i:=i) (kt:=9) (et:=4) (k:=s) (pr:=pr) Tryz.underlying162 Bwz hs b rfl rfl rfl hi fun F E d=>?_)))
 refine Arx rfl rfl g fun v h=>Au (iV 0) (l_k h (Aq (c ⟨rfl,.inr (.inr ⟨rfl,by simpa using a,b,_,_,d,rfl⟩)⟩)))
theorem Mf{l vl most}(rl:Val ρ vl l):CallsH (CX mn X) 79 #[iV most,vl] ρ σ (rP ρ σ (iV (Dd l most))):=by
 refine Bq 27 [4] Cae rfl fun Q d ah=>w_q rfl rfl fun K1 L=>Au (iV 0) (Ary rfl rfl L fun K2 K3 T k3=>Av vl ?_)
 have g4:=Can rl
 refine l_v (Ci (el:=9) Bwy rfl rl) (Av (iV most) (l_v (Gl rfl rfl) (l_k k3 (Bu (t:=decide ((l.length:Int)>most)) rfl (fun n=>?_) (fun n=>?_)))))
 ·have q5:=lZ2 n
  refine w_q rfl rfl fun K6 k6=>Au (iV 2) (l_k k6 (Aq (d (rT (iV 2) ?_))))
  rw[Dd,if_pos (by omega)]
 have q5:=lZ1 n
 refine Al (kk T ?_)
 refine w_q rfl rfl fun K7 k7=>Arv (Oh fun c=>?_)
 refine Au (.map (some c)) (Ary rfl rfl k7 fun K9 a2 k9 M=>Av vl ?_)
 have af:=Can rl
 refine l_v (Ci (el:=9) Bwy rfl rl) (Av (iV 0) (l_k M (Ao (Cc (fun mm ee dd ρ' σ'=>∃(i:Nat) (p:Array MapEntry) (C:Nat),(l.length-i)=mm∧[]=dd∧ρ=ρ'∧((c,Res.obj (Obj.map p C))::σ)=σ'∧ee 14=vl∧ee 15=(iV (l.length:Int))∧ee 5=(.map (some c))∧ee 16=iV i∧(i≤l.length)∧(∀j,j<i→Nh l j=0)∧Mu p (inL (l.take i))∧True) (m:=_) ⟨0,#[],0,rfl,rfl,rfl,rfl,rfl,rfl,rfl,rfl,Hz _,fun j h=>absurd h (Uk _),Rl (fun k=>by simp[inL]) Uh,trivial⟩ ?_))))
 rintro ai ae _ _ _ ⟨i,p,C,rfl,rfl,rfl,rfl,D,E,F,u,aj,e,H,_⟩
 refine w_q rfl rfl fun a3 N=>l_v (Da u E) (Asa N fun a4 O=>Bu (t:=decide ((i:Int)<(l.length:Int))) rfl (fun g=>?_) (fun g=>?_))
 ·have a1:=lZ2 g
  refine Al (kk O ?_)
  refine Ai fun a5 P=>Ao (w_q rfl rfl fun a6 R=>?_)
  obtain⟨f,a⟩:=Ed (xs:=l) (i:=i) (by omega)
  refine Arw (Ch i Bwy ty9 D rl (q:=(i:Int)) u rfl a) fun ak G=>?_
  have ag:=At.slen G
  refine l_v (Pk ty9 rfl G) (Au (.string f) (Arx rfl rfl R fun a7 B=>l_v (Ah (v:=.map (some c)) F) (Av (.string f) (Arv (Cm (vs:=[.map (some c),.string f]) (Wx (i:=0) H rfl (by omega)) Caf rfl rfl ⟨rfl,rfl,trivial⟩ fun al am an w=>?_)))))
  obtain⟨y,w⟩:=w
  replace y:=y.symm;subst y
  rcases w with⟨rfl,b,rfl⟩|⟨rfl,b,x,rfl⟩|⟨rfl,b,x,K,J,I,rfl⟩
  ·refine Au (iV 4) (Arx rfl rfl B fun a8 U=>Av (iV 4) (l_v (Dg rfl rfl) (l_k U (Co rfl rfl (w_q rfl rfl fun a9 V=>Av (iV 4) (Au (iV 4) (l_k V (Aj Cag (Aq (d (rT (iV 4) ?_)))))))))))
   rw[Dd,if_neg (by omega),Db e (by omega) (Ail a b) (by omega)]
  ·refine Au (iV 5) (Arx rfl rfl B fun aa W=>Av (iV 5) (l_v (Dg rfl rfl) (l_k W (Co rfl rfl (w_q rfl rfl fun ab Y=>Av (iV 5) (Au (iV 5) (l_k Y (Aj Cag (Aq (d (rT (iV 5) ?_)))))))))))
   rw[Dd,if_neg (by omega),Db e (by omega) (Aim a b x) (by omega)]
  refine Au (iV 0) (Arx rfl rfl B fun ac Z=>Av (iV 0) (l_v (Dg rfl rfl) (l_k Z (Cg rfl rfl (Al (kk P ?_))))))
  refine Ag rfl rfl (l_v (Br u rfl (z:=(((i+1):Nat):Int)) wrE) (Av (iV ((i+1):Nat)) (Ac ?_)))
  refine⟨_,?_,(i+1),K,J,rfl,rfl,rfl,rfl,D,E,F,rfl,(by omega),(Eg e (Aik a b x)),(Rl (Tq a) I),trivial⟩
  omega
 have a1:=lZ1 g
 refine Bx (kk k9 ?_)
 refine w_q rfl rfl fun ad a0=>Au (iV 0) (l_k a0 (Aj Cag (Aq (d (rT (iV 0) ?_)))))
 rw[Dd,if_neg (by omega),Fb fun j hj=>e j (by omega)]
end
section
open Go
theorem We{l many}(h:(l.length:Int)=many):Fm l many=if l.any (fun x=>!Ef x 0 1000) then 1 else 0:=by
 rw[Fm,if_pos h]
 cases ha:l.any (fun x=>!Ef x 0 1000) with
 | false =>
  rw[Fb fun j hj=>?_]
  ·rfl
  ·rw[Avz]at ha
   have:=ha l[j] (Bce hj)
   simp only[Nn,Sr hj]
   rw[if_pos (by simpa using this)]
 | true =>
  rcases Ft (n:=l.length) (p:=fun j=>Nn l j != 0) with⟨i,hi,hp,hlt,he⟩|⟨a,_⟩
  ·have b:Nn l i=1:=by
    simp only[Nn,Sr hi]at hp ⊢
    split
    ·rename_i hh;rw[if_pos hh]at hp;simp at hp
    ·rfl
   rw[Db (i:=i) (fun j hj=>by simpa using hlt j hj) hi b (by omega)];rfl
  ·rw[Bfb]at ha
   obtain⟨x,hx,hb⟩:=ha
   obtain⟨i,hi⟩:=Bew hx
   have:=a i (Mq.1 hi).1
   simp only[Nn,hi]at this
   rw[if_neg (by simpa using hb)]at this
   simp at this
theorem Vp{m i s}:inL ((m.fields.map FField.name).take i) s=true↔(Cl i (Mk m s)).isSome=true:=by
 rw[←Bcc,←Bcc,Fs]
 apply not_congr
 unfold inL
 rw[Avz]
 constructor
 ·intro h j hj
  unfold Mk
  cases hx:m.fields[j]? with
  | none=>rfl
  | some x =>
   have:=h x.name (lZ8 (i:=j) (by rw[Agn,if_pos hj,Vl,hx];rfl))
   simp only[beq_iff_eq]at this
   simp only[beq_eq_false_iff_ne,ne_eq]
   exact fun e=>this e.symm
 ·intro h x hx
  obtain⟨j,hj⟩:=Bew hx
  rw[Agn]at hj
  split at hj
  ·rename_i hlt
   rw[Vl]at hj
   obtain⟨y,hy,rfl⟩:=Biw.1 hj
   have:=h j hlt
   unfold Mk at this
   rw[hy]at this
   simp only[beq_eq_false_iff_ne,ne_eq]at this
   simp only[beq_iff_eq]
   exact fun e=>this e.symm
  ·cases hj
theorem Ml{m i s}(h:inL ((m.fields.map FField.name).take i) s=false):(Cl i (Mk m s)).isSome=false:=by
 cases hh:(Cl i (Mk m s)).isSome with
 | false=>rfl
 | true=>rw[Vp.2 hh]at h;cases h
/-- The seller before,or -1. -/
def Abg(l:List Int)(q:Nat)(la:Int):Prop:=(q=0∧la = -1)∨∃k,q=k+1∧l[k]?=some la
theorem Ze{m s q h la}(hc:s.sellers[q]?=some h)(hin:inR h 0 ((m.houses.length:Int)-1)=true)(hl:Abg s.sellers q la)(hle:h≤la):Gt m s q=7:=by
 simp only[Gt,hc,hin,if_true]
 rcases hl with⟨rfl,rfl⟩|⟨k,rfl,hk⟩
 ·have:=(Fz.1 hin).1;omega
 ·rw[if_pos (by omega),show k+1-1=k by omega,hk]
  simp only[hle,if_true]
theorem Xj{m s q h la}(hc:s.sellers[q]?=some h)(hin:inR h 0 ((m.houses.length:Int)-1)=true)(hl:Abg s.sellers q la)(hle:¬h≤la):Gt m s q=0:=by
 simp only[Gt,hc,hin,if_true]
 rcases hl with⟨rfl,rfl⟩|⟨k,rfl,hk⟩
 ·simp
 ·rw[if_pos (by omega),show k+1-1=k by omega,hk]
  simp only[hle,if_false]
theorem Als{l:List Int}{q:Nat}{h}(hh:∀j h,j<q→l[j]?=some h→0≤h)(hq:l[q]?=some h)(h0:0≤h):∀j h,j<q+1→l[j]?=some h→0≤h:=fun j h' hj hx=>by
 rcases Tc j q with hlt|hge
 ·exact hh j h' hlt hx
 ·obtain rfl:j=q:=by omega
  rw[hq]at hx;cases hx;exact h0
end
section
open Go
variable{mn:Bool}{X:Frame→List Frame→Ro→Own→Cy→Prop}{ρ:Ro}{σ:Own}
theorem Ahc{x vx}(rx:Val ρ vx x):CallsH (CX mn X) 133 #[vx] ρ σ (rP ρ σ (.bool (!Ef x 0 1000))):=by
 refine Bq 6 [2] Tryz.func133 rfl fun Q b j=>w_q rfl rfl fun h c=>Arv (Eb (v:=vx) rfl fun k=>?_)
 refine Bb (a:=x) rx fun m e f=>Au bF (Arx rfl rfl c fun i d=>Arw (Ax Mx rfl f) fun l g=>Arv (Ce (Yc g) Tryz.func113 ?_))
 refine l_v (Iy rfl) (Au (.bool (!(Ef x 0 1000))) (l_k d (Aj (Cah e) (Aq (b (rT (.bool (!(Ef x 0 1000))) ?_))))))
 rfl
theorem Pq{l vl many}(rl:Val ρ vl l):CallsH (CX mn X) 109 #[vl,iV many] ρ σ (rP ρ σ (iV (Fm l many))):=by
 refine Bq 11 [4] Tryz.func109 rfl fun Q c D=>w_q rfl rfl fun n e=>Au (iV 0) (Ary rfl rfl e fun u w h i=>Av vl ?_)
 have C:=Can rl
 refine l_v (Ci (el:=48) Bxi rfl rl) (Av (iV many) (l_v (Dg rfl rfl) (l_k i (Bu (t:=(l.length:Int) != many) rfl (fun a=>?_) (fun a=>?_)))))
 ·have d:=Ls a
  refine w_q rfl rfl fun y j=>Au (iV 2) (l_k j (Aq (c (rT (iV 2) ?_))))
  rw[Fm,if_neg d]
 have d:=Jh a
 refine Al (kk h ?_)
 refine Asb rfl rfl fun z B k m=>Av vl (Arv (Ce (Tb rl (⟨133,Tryz.f133,[],rfl,Tryz.func133,rfl,rfl,fun mn X ρ σ v x hv=>Ahc hv⟩:Su (.func (.func 133) #[] #[]) (fun x:Span=>!Ef x 0 1000))) Tryz.func132 ?_))
 refine l_k m (Bu (t:=l.any (fun x:Span=>!Ef x 0 1000)) rfl (fun b=>?_) (fun b=>?_))
 ·refine w_q rfl rfl fun p f=>Au (iV 1) (l_k f (Aq (c (rT (iV 1) ?_))))
  rw[We (by omega),b];rfl
 refine Al (kk k ?_)
 refine w_q rfl rfl fun q g=>Au (iV 0) (l_k g (Aq (c (rT (iV 0) ?_))))
 rw[We (by omega),b];rfl
theorem Vc{m vm}(rm:Val ρ vm m):CallsH (CX mn X) 82 #[vm] ρ σ (rP ρ σ (iV (Ew m))):=by
 refine Bq 51 [2] Tryz.func82 rfl fun Q n c8=>w_q rfl rfl fun K1 k1=>Arv (Eb (v:=vm) rfl fun k2=>?_)
 refine Bb (a:=m) rm fun ba p B=>Au (iV 0) (Ary rfl rfl k1 fun K3 K4 k3 k4=>Arw (Ba Market.f_fields Bxa rfl Se B) fun v5 r5=>Arw (Ax Se rfl r5) fun v6 r6=>?_)
 have g7:=Can r6
 refine l_v (Ci (el:=51) Bxn rfl r6) (l_v (Gl rfl rfl) (l_k k4 (Bu (t:=decide ((m.fields.length:Int)>6)) rfl (fun l=>?_) (fun l=>?_))))
 ·have F:=lZ2 l
  refine w_q rfl rfl fun K9 k9=>Au (iV 2) (l_k k9 (Aj (Cah p) (Aq (n (rT (iV 2) ?_)))))
  rw[Ew,if_pos (by omega)]
 have F:=lZ1 l
 refine Al (kk k3 ?_)
 refine w_q rfl rfl fun bb aa=>Arv (Oh fun D=>?_)
 refine Au (.map (some D)) (Ary rfl rfl aa fun bc bd ab ac=>Arw (Ba Market.f_fields Bxa rfl Se B) fun cc az=>Arw (Ax Se rfl az) fun b7 R=>?_)
 have c2:=Can R
 refine l_v (Ci (el:=51) Bxn rfl R) (Av (iV 0) (l_k ac (Ao (Cc (fun mm ee dd ρ' σ'=>∃(i:Nat) (J:Array MapEntry) (V:Nat),(m.fields.length-i)=mm∧[]=dd∧ba=ρ'∧((D,Res.obj (Obj.map J V))::σ)=σ'∧ee 1=pV k2∧ee 14=b7∧ee 15=(iV (m.fields.length:Int))∧ee 3=(.map (some D))∧ee 16=iV i∧(i≤m.fields.length)∧(∀j,j<i→fieldAt m j=0)∧Mu J (inL ((m.fields.map FField.name).take i))∧True) (m:=_) ⟨0,#[],0,rfl,rfl,rfl,rfl,rfl,rfl,rfl,rfl,rfl,Hz _,fun j h=>absurd h (Uk _),Rl (fun k=>by simp[inL]) Uh,trivial⟩ ?_))))
 rintro ca c1 _ _ _ ⟨i,J,V,rfl,rfl,rfl,rfl,K,W,Y,Z,L,cb,w,a5,_⟩
 refine w_q rfl rfl fun be ad=>l_v (Da L Y) (Asa ad fun bf ae=>Bu (t:=decide ((i:Int)<(m.fields.length:Int))) rfl (fun f=>?_) (fun f=>?_))
 ·have E:=lZ2 f
  refine Al (kk ae ?_)
  refine Ai fun bg af=>Ao (w_q rfl rfl fun bh ag=>?_)
  obtain⟨b,d⟩:=Ed (xs:=m.fields) (i:=i) (by omega)
  refine Arw (Ch i Bxn Lo W R (q:=(i:Int)) L rfl d) fun cd b0=>Arw (Ax Lo rfl b0) fun b9 a0=>Arv (Ct Xu fun c9=>?_)
  refine Cx rfl (Dv (v:=b9) (a:=b) (c:=Aah) Lo rfl rfl a0 rfl ?_)
  refine Bb (a:=b) a0 fun cp u I=>?_
  replace B:=At.mono u B
  refine Ary rfl rfl ag fun bi bj ah O=>l_v (Ah (v:=.map (some D)) Z) (Arw (Ba FField.f_name Bxf rfl ty9 I) fun ce a1=>?_)
  have c3:=At.slen a1
  refine l_v (Pk ty9 rfl a1) (Arv (Cm (vs:=[.map (some D),.string b.name]) (Wx (i:=0) a5 rfl (by omega)) Caf rfl rfl ⟨rfl,rfl,trivial⟩ fun co cq cr M=>?_))
  obtain⟨N,M⟩:=M
  replace N:=N.symm;subst N
  rcases M with⟨rfl,e,rfl⟩|⟨rfl,e,y,rfl⟩|⟨rfl,e,y,a9,a8,a6,rfl⟩
  ·refine Au (iV 4) (Arx rfl rfl O fun bk ai=>Av (iV 4) (l_v (Dg rfl rfl) (l_k ai (Co rfl rfl (w_q rfl rfl fun bl aj=>Av (iV 4) (Au (iV 4) (l_k aj (Aj Cag (Aj (Cah (Cam p u)) (Aq (n (rT (iV 4) ?_))))))))))))
   have hf:fieldAt m i=4:=by simp[fieldAt,d,e]
   rw[Ew,if_neg (by omega),Db w (by omega) hf (by omega)]
  ·refine Au (iV 5) (Arx rfl rfl O fun bm ak=>Av (iV 5) (l_v (Dg rfl rfl) (l_k ak (Co rfl rfl (w_q rfl rfl fun bn al=>Av (iV 5) (Au (iV 5) (l_k al (Aj Cag (Aj (Cah (Cam p u)) (Aq (n (rT (iV 5) ?_))))))))))))
   have hf:fieldAt m i=5:=by simp[fieldAt,d,e,Vp.1 y]
   rw[Ew,if_neg (by omega),Db w (by omega) hf (by omega)]
  refine Au (iV 0) (Arx rfl rfl O fun bo am=>Av (iV 0) (l_v (Dg rfl rfl) (l_k am (Cg rfl rfl (Al (kk ah ?_))))))
  refine Ai fun bp an=>Ao (w_q rfl rfl fun bq ao=>Arw (Ba FField.f_house Bxf rfl ty3 I) fun cf a2=>?_)
  have⟨c4,c5⟩:=At.rng a2
  refine l_v (Bc ty3 rfl a2) (Arw (Ba Market.f_houses Bxa rfl Hw B K) fun cg b1=>Arw (Ax Hw rfl b1) fun ch a3=>?_)
  have c6:=Can a3
  refine l_v (Ci (el:=9) Bwy rfl a3) (l_v (Ou rfl rfl (z:=(m.houses.length:Int)-1) wrE) (Arv (Ce Jl Bys ?_)))
  refine l_v (Iy rfl) (Au (.bool (!(inR b.house 0 ((m.houses.length:Int)-1)))) (l_k ao (Bu (t:=!(inR b.house 0 ((m.houses.length:Int)-1))) rfl (fun g=>?_) (fun g=>?_))))
  ·have T:=not_eq_t g
   have ay:=Xb.1 T
   refine w_q rfl rfl fun br ap=>Au (iV 6) (l_k ap (Aj Cag (Aj (Cah (Cam p u)) (Aq (n (rT (iV 6) ?_))))))
   have hf:fieldAt m i=6:=by simp[fieldAt,d,e,Ml y,l,f,g,T,F,E,ay]
   rw[Ew,if_neg (by omega),Db w (by omega) hf (by omega)]
  have G:=not_eq_f g
  have P:=Fz.1 G
  refine w_q rfl rfl fun bt aq=>Arw (Ba FField.f_grows Bxf rfl Mx I) fun ci b2=>Arw (Ax Mx rfl b2) fun cj b3=>Arv (Ce (Yc b3) Tryz.func113 ?_)
  refine l_v (Iy rfl) (Au (.bool (!(Ef b.grows 0 1000000))) (l_k aq (Bu (t:=!(Ef b.grows 0 1000000)) rfl (fun x=>?_) (fun x=>?_))))
  ·have a7:=not_eq_t x
   refine w_q rfl rfl fun bu ar=>Au (iV 1) (l_k ar (Aj Cag (Aj (Cah (Cam p u)) (Aq (n (rT (iV 1) ?_))))))
   have hf:fieldAt m i=1:=by simp[fieldAt,d,e,Ml y,l,f,g,G,x,a7,F,E,P]
   rw[Ew,if_neg (by omega),Db w (by omega) hf (by omega)]
  have U:=not_eq_f x
  refine Al (kk an ?_)
  refine w_q rfl rfl fun bv au=>Arw (Ba FField.f_marks Bxf rfl Uo I) fun ck b4=>Arw (Ax Uo rfl b4) fun cl b5=>Arw (Ba Market.f_marks Bxa rfl Hw B K) fun cm b6=>Arw (Ax Hw rfl b6) fun cn a4=>?_
  have c7:=Can a4
  refine l_v (Ci (el:=9) Bwy rfl a4) (Arv (Ce (Pq b5) Tryz.func109 ?_))
  refine Au (iV (Fm b.marks (m.marks.length:Int))) (Arx rfl rfl au fun bx av=>Av (iV (Fm b.marks (m.marks.length:Int))) (l_v (Dg rfl rfl) (l_k av (Bu (t:=Fm b.marks (m.marks.length:Int) != 0) rfl (fun C=>?_) (fun C=>?_)))))
  ·have H:=Ls C
   refine w_q rfl rfl fun bz aw=>Av (iV (Fm b.marks (m.marks.length:Int))) (Au (iV (Fm b.marks (m.marks.length:Int))) (l_k aw (Aj Cag (Aj (Cah (Cam p u)) (Aq (n (rT (iV (Fm b.marks (m.marks.length:Int))) ?_)))))))
   have hf:fieldAt m i=Fm b.marks ((m.marks.length:Int)):=by simp[fieldAt,d,e,Ml y,l,f,g,G,x,U,C,F,E,P,H]
   rw[Ew,if_neg (by omega),Db w (by omega) hf H]
  have H:=Jh C
  refine Al (kk af ?_)
  refine Ag rfl rfl (l_v (Br L rfl (z:=(((i+1):Nat):Int)) wrE) (Av (iV ((i+1):Nat)) (Bj (Cah u) (Ac ?_))))
  refine⟨_,?_,(i+1),a9,a8,rfl,rfl,rfl,rfl,K,W,Y,Z,rfl,(by omega),(Eg w (by simp[fieldAt,d,e,Ml y,l,f,g,G,x,U,C,F,E,P,H])),(Rl (Tq (by rw[Vl,d];rfl)) a6),trivial⟩
  omega
 have E:=lZ1 f
 refine Bx (kk ab ?_)
 refine w_q rfl rfl fun c0 ax=>Au (iV 0) (l_k ax (Aj Cag (Aj (Cah p) (Aq (n (rT (iV 0) ?_))))))
 rw[Ew,if_neg (by omega),Fb fun j hj=>w j (by omega)]
theorem Wy{m vm}(rm:Val ρ vm m):CallsH (CX mn X) 83 #[vm] ρ σ (rP ρ σ (iV (Jc m))):=by
 refine Bq 51 [2] Tryz.func83 rfl fun Q x ch=>w_q rfl rfl fun K1 k1=>Arv (Eb (v:=vm) rfl fun k2=>?_)
 refine Bb (a:=m) rm fun bf y D=>Au (iV 0) (Ary rfl rfl k1 fun K3 K4 k3 k4=>Arw (Ba Market.f_sales Bxa rfl Qn D) fun v5 r5=>Arw (Ax Qn rfl r5) fun v6 r6=>?_)
 have g7:=Can r6
 refine l_v (Ci (el:=54) Bxk rfl r6) (l_v (Gl rfl rfl) (l_k k4 (Bu (t:=decide ((m.sales.length:Int)>8)) rfl (fun g=>?_) (fun g=>?_))))
 ·have H:=lZ2 g
  refine w_q rfl rfl fun K9 k9=>Au (iV 2) (l_k k9 (Aj (Cah y) (Aq (x (rT (iV 2) ?_)))))
  rw[Jc,if_pos (by omega)]
 have H:=lZ1 g
 refine Al (kk k3 ?_)
 refine Asb rfl rfl fun bh bi af ag=>Arw (Ba Market.f_sales Bxa rfl Qn D) fun cn b7=>Arw (Ax Qn rfl b7) fun ac O=>?_
 have c9:=Can O
 refine l_v (Ci (el:=54) Bxk rfl O) (Av (iV 0) (l_k ag (Ao (Cc (fun mm ee dd ρ' σ'=>∃(i:Nat),(m.sales.length-i)=mm∧[]=dd∧bf=ρ'∧σ=σ'∧ee 1=pV k2∧ee 13=ac∧ee 14=(iV (m.sales.length:Int))∧ee 15=iV i∧(i≤m.sales.length)∧(∀j,j<i→Jb m j=0)∧True) (m:=_) ⟨0,rfl,rfl,rfl,rfl,rfl,rfl,rfl,rfl,Hz _,fun j h=>absurd h (Uk _),trivial⟩ ?_))))
 rintro cj c7 _ _ _ ⟨i,rfl,rfl,rfl,rfl,ad,V,W,J,cl,C,_⟩
 refine w_q rfl rfl fun bj ah=>l_v (Da J W) (Asa ah fun bk ai=>Bu (t:=decide ((i:Int)<(m.sales.length:Int))) rfl (fun e=>?_) (fun e=>?_))
 ·have G:=lZ2 e
  refine Al (kk ai ?_)
  refine Ai fun bl aj=>Ao (w_q rfl rfl fun bm ak=>?_)
  obtain⟨b,u⟩:=Ed (xs:=m.sales) (i:=i) (by omega)
  refine Arw (Ch i Bxk Up V O (q:=(i:Int)) J rfl u) fun co b9=>Arw (Ax Up rfl b9) fun bd a7=>Arv (Ct Agb fun ci=>?_)
  refine Cx rfl (Dv (v:=bd) (a:=b) (c:=Akd) Up rfl rfl a7 rfl ?_)
  refine Bb (a:=b) a7 fun bg B P=>?_
  replace D:=At.mono B D
  refine Asa ak fun bn al=>Ao (w_q rfl rfl fun bo am=>Arw (Ba Sale.f_grams Bxm rfl ty3 P) fun cp a8=>?_)
  have⟨ca,cb⟩:=At.rng a8
  refine l_v (Bc ty3 rfl a8) (Arv (Ce Jl Bys ?_))
  refine l_v (Iy rfl) (Au (.bool (!(inR b.grams 0 1000000))) (l_k am (Bu (t:=!(inR b.grams 0 1000000)) rfl (fun f=>?_) (fun f=>?_))))
  ·have T:=not_eq_t f
   have b5:=Xb.1 T
   refine w_q rfl rfl fun bp an=>Au (iV 1) (l_k an (Aj (Cah (Cam y B)) (Aq (x (rT (iV 1) ?_)))))
   have hf:Jb m i=1:=by simp[Jb,u,g,e,f,T,H,G,b5]
   rw[Jc,if_neg (by omega),Db C (by omega) hf (by omega)]
  have n:=not_eq_f f
  have a4:=Fz.1 n
  refine w_q rfl rfl fun bq ao=>Arw (Ba Sale.f_sellers Bxm rfl Vh P) fun cq ba=>Arw (Ax Vh rfl ba) fun cr a9=>?_
  have cc:=Can a9
  refine l_v (Ci (el:=3) Bxj rfl a9) (l_v (Ek rfl rfl) (Au (.bool ((b.sellers.length:Int)==0)) (l_k ao (Bu (t:=(b.sellers.length:Int)==0) rfl (fun k=>?_) (fun k=>?_)))))
  ·have M:=Jr k
   refine w_q rfl rfl fun br ap=>Au (iV 2) (l_k ap (Aj (Cah (Cam y B)) (Aq (x (rT (iV 2) ?_)))))
   have hf:Jb m i=2:=by simp[Jb,u,g,e,f,n,k,H,G,a4,M]
   rw[Jc,if_neg (by omega),Db C (by omega) hf (by omega)]
  have M:=Jq k
  refine Al (kk al ?_)
  refine w_q rfl rfl fun bt aq=>Au (iV (-1)) (Arx rfl rfl aq fun bu ar=>Arw (Ba Sale.f_sellers Bxm rfl Vh P) fun cs bb=>Arw (Ax Vh rfl bb) fun be R=>?_)
  have cd:=Can R
  refine l_v (Ci (el:=3) Bxj rfl R) (Av (iV 0) (l_k ar (Ao (Cc (fun mm ee dd ρ' σ'=>∃(q:Nat) (la:Int),(b.sellers.length-q)=mm∧[]=dd∧bg=ρ'∧σ=σ'∧ee 1=pV k2∧ee 13=ac∧ee 14=(iV (m.sales.length:Int))∧ee 15=iV i∧ee 30=be∧ee 31=(iV (b.sellers.length:Int))∧ee 5=iV la∧ee 32=iV q∧(q≤b.sellers.length)∧(∀j,j<q→Gt m b j=0)∧(Abg b.sellers q la)∧(∀j h,j<q→b.sellers[j]?=some h→0≤h)∧True) (m:=_) ⟨0,-1,rfl,rfl,rfl,rfl,ad,V,W,J,rfl,rfl,rfl,rfl,Hz _,fun j h=>absurd h (Uk _),.inl ⟨rfl,rfl⟩,fun j h hj=>absurd hj (Uk _),trivial⟩ ?_))))
  rintro ck c8 _ _ _ ⟨q,la,rfl,rfl,rfl,rfl,K,Y,Z,a0,a1,a2,ae,L,cm,F,a3,b4,_⟩
  refine w_q rfl rfl fun bv au=>l_v (Da L a2) (Asa au fun bx av=>Bu (t:=decide ((q:Int)<(b.sellers.length:Int))) rfl (fun l=>?_) (fun l=>?_))
  ·have a5:=lZ2 l
   refine Al (kk av ?_)
   refine Ai fun bz aw=>Ao (w_q rfl rfl fun c0 ax=>?_)
   obtain⟨d,w⟩:=Ed (xs:=b.sellers) (i:=q) (by omega)
   refine Arw (Ch q Bxj ty3 a1 R (q:=(q:Int)) L rfl w) fun ct aa=>?_
   have⟨ce,cf⟩:=At.rng aa
   refine l_v (Bc ty3 rfl aa) (Au (iV d) (Asa ax fun c1 ay=>Ao (w_q rfl rfl fun c2 az=>Av (iV d) (Arw (Ba Market.f_houses Bxa rfl Hw D K) fun cu bc=>Arw (Ax Hw rfl bc) fun cv ab=>?_))))
   have cg:=Can ab
   refine l_v (Ci (el:=9) Bwy rfl ab) (l_v (Ou rfl rfl (z:=(m.houses.length:Int)-1) wrE) (Arv (Ce Jl Bys ?_)))
   refine l_v (Iy rfl) (Au (.bool (!(inR d 0 ((m.houses.length:Int)-1)))) (l_k az (Bu (t:=!(inR d 0 ((m.houses.length:Int)-1))) rfl (fun p=>?_) (fun p=>?_))))
   ·have I:=not_eq_t p
    have b6:=Xb.1 I
    refine w_q rfl rfl fun c3 b0=>Au (iV 6) (l_k b0 (Aj (Cah (Cam y B)) (Aq (x (rT (iV 6) ?_)))))
    have hq:Gt m b q=6:=by
     simp[Gt,w,g,e,f,n,k,l,p,I,H,G,a4,M,a5,b6]
    have hf:Jb m i=6:=by simp only[Jb,u,g,e,f,n,k,l,p,I,if_true];rw[if_neg (by omega),Db F (by omega) hq (by omega)]
    rw[Jc,if_neg (by omega),Db C (by omega) hf (by omega)]
   have U:=not_eq_f p
   have a6:=Fz.1 U
   refine w_q rfl rfl fun c4 b1=>Av (iV d) (l_v (Ah (v:=iV la) ae) (l_v (Uz rfl rfl) (Au (.bool (decide (d≤la))) (l_k b1 (Bu (t:=decide (d≤la)) rfl (fun E=>?_) (fun E=>?_))))))
   ·have N:=lZ2 E
    refine w_q rfl rfl fun c5 b2=>Au (iV 7) (l_k b2 (Aj (Cah (Cam y B)) (Aq (x (rT (iV 7) ?_)))))
    have hq:Gt m b q=7:=by
     exact Ze w (Fz.2 a6) a3 N
    have hf:Jb m i=7:=by simp only[Jb,u,g,e,f,n,k,l,p,U,E,if_true];rw[if_neg (by omega),Db F (by omega) hq (by omega)]
    rw[Jc,if_neg (by omega),Db C (by omega) hf (by omega)]
   have N:=lZ1 E
   refine Al (kk ay ?_)
   refine Ag rfl rfl (Av (iV d) (Au (iV d) (l_k aw (Ag rfl rfl (l_v (Br L rfl (z:=(((q+1):Nat):Int)) wrE) (Av (iV ((q+1):Nat)) (Ac ?_)))))))
   refine⟨_,?_,((q+1)),(d),rfl,rfl,rfl,rfl,K,Y,Z,a0,a1,a2,rfl,rfl,(by omega),(Eg F (by
 exact Xj w (Fz.2 a6) a3 N)),(.inr ⟨_,rfl,w⟩),(Als b4 w (by omega)),trivial⟩
   omega
  have a5:=lZ1 l
  refine Bx (kk aj ?_)
  refine Ag rfl rfl (l_v (Br a0 rfl (z:=(((i+1):Nat):Int)) wrE) (Av (iV ((i+1):Nat)) (Bj (Cah B) (Ac ?_))))
  refine⟨_,?_,(i+1),rfl,rfl,rfl,rfl,K,Y,Z,rfl,(by omega),(Eg C (by simp only[Jb,u,g,e,f,n,k,l,if_true];rw[if_neg (by omega),Fb fun j hj=>F j (by omega)])),trivial⟩
  omega
 have G:=lZ1 e
 refine Bx (kk af ?_)
 refine w_q rfl rfl fun c6 b3=>Au (iV 0) (l_k b3 (Aj (Cah y) (Aq (x (rT (iV 0) ?_)))))
 rw[Jc,if_neg (by omega),Fb fun j hj=>C j (by omega)]
theorem Js{m vm}(rm:Val ρ vm m):CallsH (CX mn X) 29 #[vm] ρ σ (rP ρ σ (iV (Cf m))):=by
 refine Bq 25 [2] Tryz.func29 rfl fun Q c a0=>w_q rfl rfl fun L k=>Arv (Eb (v:=vm) rfl fun k2=>?_)
 refine Bb (a:=m) rm fun a5 d f=>Au (iV 0) (Ary rfl rfl k fun Y Z B C=>Arw (Ba Market.f_houses Bxa rfl Hw f) fun v5 J=>Arw (Ax Hw rfl J) fun v6 K=>Arv (Ce (Mf K) Cae ?_))
 refine Au (iV (Dd m.houses 5)) (Arx rfl rfl C fun K7 D=>Av (iV (Dd m.houses 5)) (l_v (Dg rfl rfl) (l_k D (Bu (t:=Dd m.houses 5 != 0) rfl (fun i=>?_) (fun i=>?_)))))
 ·have b:=Ls i
  refine w_q rfl rfl fun K9 E=>Av (iV (Dd m.houses 5)) (Au (iV (Dd m.houses 5)) (l_k E (Aj (Cah d) (Aq (c (rT (iV (Dd m.houses 5)) ?_))))))
  rw[Cf,Ry b]
 have b:=Jh i
 refine Al (kk B ?_)
 refine Asb rfl rfl fun M N l n=>Arw (Ba Market.f_marks Bxa rfl Hw f) fun a1 F=>Arw (Ax Hw rfl F) fun a2 G=>Arv (Ce (Mf G) Cae ?_)
 refine Au (iV (Dd m.marks 4)) (Arx rfl rfl n fun O p=>Av (iV (Dd m.marks 4)) (l_v (Dg rfl rfl) (l_k p (Bu (t:=Dd m.marks 4 != 0) rfl (fun g=>?_) (fun g=>?_)))))
 ·have e:=Ls g
  refine w_q rfl rfl fun P q=>Av (iV (Dd m.marks 4)) (Au (iV (Dd m.marks 4)) (l_k q (Aj (Cah d) (Aq (c (rT (iV (Dd m.marks 4)) ?_))))))
  rw[Cf,Gr b,Ry e]
 have e:=Jh g
 refine Al (kk l ?_)
 refine Asb rfl rfl fun R T u w=>Arw (Ax Ln rfl f) fun a3 H=>Arv (Ce (Vc H) Tryz.func82 ?_)
 refine Au (iV (Ew m)) (Arx rfl rfl w fun U x=>Av (iV (Ew m)) (l_v (Dg rfl rfl) (l_k x (Bu (t:=Ew m != 0) rfl (fun h=>?_) (fun h=>?_)))))
 ·have j:=Ls h
  refine w_q rfl rfl fun V y=>Av (iV (Ew m)) (Au (iV (Ew m)) (l_k y (Aj (Cah d) (Aq (c (rT (iV (Ew m)) ?_))))))
  rw[Cf,Gr b,Gr e,Ry j]
 have j:=Jh h
 refine Al (kk u ?_)
 refine w_q rfl rfl fun W z=>Arw (Ax Ln rfl f) fun a4 I=>Arv (Ce (Wy I) Tryz.func83 ?_)
 refine Au (iV (Jc m)) (l_k z (Aj (Cah d) (Aq (c (rT (iV (Jc m)) ?_)))))
 rw[Cf,Gr b,Gr e,Gr j]
end
section
open Go
def Rp(l:Lab)(s:ByteArray)(k:Nat):Bool:=match l.tests[k]? with|some x=>x.name.toList==s.toList|none=>false
def Nk(t:FTest)(k:Nat):Int:=match t.sees[k]? with|some b=>if decide (b<0)||decide (b>2) then 1 else 0|none=>0
def Hb(l:Lab)(i:Nat):Int:=match l.tests[i]? with
 | none=>0
 | some t=>if Hg t.name then (if (Cl i (Rp l t.name)).isSome then 5 else if (t.sees.length:Int)=(l.kinds.length:Int) then Hl t.sees.length (Nk t) else 2) else 4
def Jy(l:Lab):Int:=if inR l.most 0 (l.kinds.length:Int) then (if (l.tests.length:Int)>5 then 2 else Hl l.tests.length (Hb l)) else 1
def Gh(l:Lab):Int:=orF (Dd l.kinds 4) (Jy l)
theorem Zn{l i s}:inL ((l.tests.map FTest.name).take i) s=true↔(Cl i (Rp l s)).isSome=true:=by
 rw[←Bcc,←Bcc,Fs]
 apply not_congr
 unfold inL
 rw[Avz]
 constructor
 ·intro h j hj
  unfold Rp
  cases hx:l.tests[j]? with
  | none=>rfl
  | some x =>
   have:=h x.name (lZ8 (i:=j) (by rw[Agn,if_pos hj,Vl,hx];rfl))
   simp only[beq_iff_eq]at this
   simp only[beq_eq_false_iff_ne,ne_eq]
   exact fun e=>this e.symm
 ·intro h x hx
  obtain⟨j,hj⟩:=Bew hx
  rw[Agn]at hj
  split at hj
  ·rename_i hlt
   rw[Vl]at hj
   obtain⟨y,hy,rfl⟩:=Biw.1 hj
   have:=h j hlt
   unfold Rp at this
   rw[hy]at this
   simp only[beq_eq_false_iff_ne,ne_eq]at this
   simp only[beq_iff_eq]
   exact fun e=>this e.symm
  ·cases hj
theorem Og{l i s}(h:inL ((l.tests.map FTest.name).take i) s=false):(Cl i (Rp l s)).isSome=false:=by
 cases hh:(Cl i (Rp l s)).isSome with
 | false=>rfl
 | true=>rw[Zn.2 hh]at h;cases h
theorem Xe{l i s}(h:∀j,j<i→Rp l s j=false):(Cl i (Rp l s)).isSome=false:=Fs.2 h
theorem Axl{l i k s}(hk:k<i)(h:Rp l s k=true):(Cl i (Rp l s)).isSome=true:=by
 cases hh:(Cl i (Rp l s)).isSome with
 | true=>rfl
 | false=>rw[Fs.1 hh k hk]at h;cases h
end
section
open Go
variable{mn:Bool}{X:Frame→List Frame→Ro→Own→Cy→Prop}{ρ:Ro}{σ:Own}
theorem Ach{l vl}(rl:Val ρ vl l):CallsH (CX mn X) 14 #[vl] ρ σ (rP ρ σ (iV (Gh l))):=by
 refine Bq 83 [2] Tryz.func14 rfl fun Q E dz=>w_q rfl rfl fun K1 k1=>Arv (Eb (v:=vl) rfl fun k2=>?_)
 refine Bb (a:=l) rl fun cg F C=>Au (iV 0) (Ary rfl rfl k1 fun K3 K4 k3 k4=>Arw (Ba Lab.f_kinds Bxd rfl Hw C) fun v5 r5=>Arw (Ax Hw rfl r5) fun v6 r6=>Arv (Ce (Asv r6) Cac ?_))
 refine Au (iV (Dd l.kinds 4)) (Arx rfl rfl k4 fun K7 k7=>Av (iV (Dd l.kinds 4)) (l_v (Dg rfl rfl) (l_k k7 (Bu (t:=Dd l.kinds 4 != 0) rfl (fun u=>?_) (fun u=>?_)))))
 ·have y:=Ls u
  refine w_q rfl rfl fun K9 k9=>Av (iV (Dd l.kinds 4)) (Au (iV (Dd l.kinds 4)) (l_k k9 (Aj (Cah F) (Aq (E (rT (iV (Dd l.kinds 4)) ?_))))))
  rw[Gh,Ry y]
 have y:=Jh u
 refine Al (kk k3 ?_)
 refine Asb rfl rfl fun ch ck au ax=>Arw (Ba Lab.f_most Bxd rfl ty3 C) fun e8 ad=>?_
 have⟨dl,dm⟩:=At.rng ad
 refine l_v (Bc ty3 rfl ad) (Arw (Ba Lab.f_kinds Bxd rfl Hw C) fun e9 c0=>Arw (Ax Hw rfl c0) fun ea ae=>?_)
 have dn:=Can ae
 refine l_v (Ci (el:=9) Bwy rfl ae) (Arv (Ce Bed Byr ?_))
 refine l_v (Iy rfl) (l_k ax (Bu (t:=!(inR l.most 0 (l.kinds.length:Int))) rfl (fun e=>?_) (fun e=>?_)))
 ·have aq:=not_eq_t e
  have bt:=Xb.1 aq
  refine w_q rfl rfl fun cl ay=>Au (iV 1) (l_k ay (Aj (Cah F) (Aq (E (rT (iV 1) ?_)))))
  have hi:inR l.most 0 (l.kinds.length:Int)=false:=Xb.2 bt
  rw[Gh,Gr y,Jy,hi];rfl
 have x:=not_eq_f e
 have G:=Fz.1 x
 refine Al (kk au ?_)
 refine Asb rfl rfl fun cm cn az b0=>Arw (Ba Lab.f_tests Bxd rfl Vi C) fun eb c1=>Arw (Ax Vi rfl c1) fun ec af=>?_
 have dp:=Can af
 refine l_v (Ci (el:=46) Bxg rfl af) (l_v (Gl rfl rfl) (l_k b0 (Bu (t:=decide ((l.tests.length:Int)>5)) rfl (fun f=>?_) (fun f=>?_))))
 ·have a3:=lZ2 f
  refine w_q rfl rfl fun co b1=>Au (iV 2) (l_k b1 (Aj (Cah F) (Aq (E (rT (iV 2) ?_)))))
  have hi:inR l.most 0 (l.kinds.length:Int)=true:=Fz.2 G
  rw[Gh,Gr y,Jy,hi,if_pos rfl,if_pos (by omega)]
 have a3:=lZ1 f
 refine Al (kk az ?_)
 refine Asb rfl rfl fun cp cq b2 b3=>Au (iV 0) (l_k b3 (Ao (Cc (fun mm ee dd ρ' σ'=>∃(i:Nat),(l.tests.length-i)=mm∧[]=dd∧cg=ρ'∧σ=σ'∧ee 1=pV k2∧ee 4=iV i∧(i≤l.tests.length)∧(∀j,j<i→Hb l j=0)∧True) (m:=_) ⟨0,rfl,rfl,rfl,rfl,rfl,rfl,Hz _,fun j h=>absurd h (Uk _),trivial⟩ ?_)))
 rintro e0 df _ _ _ ⟨i,rfl,rfl,rfl,rfl,Y,Z,e3,J,_⟩
 refine Asb rfl rfl fun cr cs b4 b5=>l_v (Ah (v:=iV i) Z) (Arw (Ba Lab.f_tests Bxd rfl Vi C Y) fun ed c2=>Arw (Ax Vi rfl c2) fun ef ag=>?_)
 have dq:=Can ag
 refine l_v (Ci (el:=46) Bxg rfl ag) (l_v (Da rfl rfl) (l_k b5 (Bu (t:=decide ((i:Int)<(l.tests.length:Int))) rfl (fun g=>?_) (fun g=>?_))))
 ·have a4:=lZ2 g
  refine Al (kk b4 ?_)
  refine Ai fun ct b6=>Ao (w_q rfl rfl fun cu b7=>Arw (Ba Lab.f_tests Bxd rfl Vi C Y) fun eg c3=>Arw (Ax Vi rfl c3) fun eh c4=>l_v (Ah (v:=iV i) Z) ?_)
  obtain⟨d,H⟩:=Ed (xs:=l.tests) (i:=i) (by omega)
  refine Arw (Ch i Bxg Um rfl c4 (q:=(i:Int)) rfl rfl H) fun ei c5=>Arw (Ax Um rfl c5) fun cf ah=>Arv (Ct Ws fun aa=>?_)
  refine Cx rfl (Dv (v:=cf) (a:=d) (c:=Aag) Um rfl rfl ah rfl ?_)
  refine Bb (a:=d) ah fun ap I M=>?_
  replace C:=At.mono I C
  refine Ary rfl rfl b7 fun cv cw b9 ba=>Arw (Ba FTest.f_name Bxh rfl ty9 M) fun ej ai=>?_
  have dr:=At.slen ai
  refine l_v (Pk ty9 rfl ai) (Arv (Ce Ayo Cad ?_))
  refine l_v (Iy rfl) (l_k ba (Bu (t:=!(Hg d.name)) rfl (fun n=>?_) (fun n=>?_)))
  ·have ar:=not_eq_t n
   refine w_q rfl rfl fun cx bb=>Au (iV 4) (l_k bb (Aj (Cah (Cam F I)) (Aq (E (rT (iV 4) ?_)))))
   have hi:inR l.most 0 (l.kinds.length:Int)=true:=Fz.2 G
   have hf:Hb l i=4:=by
    simp[Hb,H,u,e,x,f,g,n,ar]
   rw[Gh,Gr y,Jy,hi,if_pos rfl,if_neg (by omega),Db J (by omega) hf (by omega)]
  have z:=not_eq_f n
  refine Al (kk b9 ?_)
  refine Asb rfl rfl fun cy cz bc bd=>Au (iV 0) (l_k bd (Ao (Cc (fun mm ee dd ρ' σ'=>∃(k:Nat),(i-k)=mm∧[]=dd∧ap=ρ'∧σ=σ'∧ee 1=pV k2∧ee 4=iV i∧ee 5=pV aa∧ee 6=iV k∧(k≤i)∧(∀j,j<k→Rp l d.name j=false)∧True) (m:=_) ⟨0,rfl,rfl,rfl,rfl,Y,Z,rfl,rfl,Hz _,fun j h=>absurd h (Uk _),trivial⟩ ?_)))
  rintro e1 dh _ _ _ ⟨k,rfl,rfl,rfl,rfl,R,a0,T,a1,e4,O,_⟩
  refine Asb rfl rfl fun d0 d1 be bf=>l_v (Ah (v:=iV k) a1) (l_v (Ah (v:=iV i) a0) (l_v (Da rfl rfl) (l_k bf (Bu (t:=decide ((k:Int)<(i:Int))) rfl (fun w=>?_) (fun w=>?_)))))
  ·have a5:=lZ2 w
   refine Al (kk be ?_)
   refine Ai fun d2 bg=>Ao (Ai fun d3 bh=>Px (Cu 0 zZ0 rfl (Ba Lab.f_tests Bxd rfl Vi C R) fun ek c6=>Cu 1 zZ1 rfl (Ax Vi rfl c6) fun em c7=>Bw 2 Anr rfl (Ah (v:=iV k) a1) ?_))
   obtain⟨a7,a2⟩:=Ed (xs:=l.tests) (i:=k) (by omega)
   refine Cu 3 Ans rfl (Ch k Bxg Um rfl c7 (q:=(k:Int)) rfl rfl a2) fun en c8=>Cu 4 Ant rfl (Ba FTest.f_name Bxh rfl ty9 c8) fun eo aj=>?_
   have ds:=At.slen aj
   refine Bw 5 zZ8 rfl (Pk ty9 rfl aj) (Jm 6 zZ2 rfl (Ba FTest.f_name Bxh rfl ty9 M T) fun ep ak=>?_)
   have dt:=At.slen ak
   refine Dp 7 zZ3 rfl (Pk ty9 rfl ak) (Dp 8 zZ4 rfl (Aya (p:=a7.name) (q:=d.name) rfl rfl) (Ec rfl (kk bh ?_)))
   refine Bu (t:=(a7.name).toList==(d.name).toList) rfl (fun L=>?_) (fun L=>?_)
   ·have a6:=Jr L
    refine w_q rfl rfl fun d4 bi=>Au (iV 5) (l_k bi (Aj (Cah (Cam F I)) (Aq (E (rT (iV 5) ?_)))))
    have hi:inR l.most 0 (l.kinds.length:Int)=true:=Fz.2 G
    have hf:Hb l i=5:=by
     have htw:=Axl (show k<i by omega) (show Rp l d.name k=true by simp[Rp,a2,u,e,x,f,g,n,z,w,L,y,G,a3,a4,a5,a6])
     simp[Hb,H,htw,u,e,x,f,g,n,z,w,L]
    rw[Gh,Gr y,Jy,hi,if_pos rfl,if_neg (by omega),Db J (by omega) hf (by omega)]
   have a6:=Jq L
   refine Al (kk bg ?_)
   refine Ag rfl rfl (l_v (Ah (v:=iV k) a1) (l_v (Dm (((k+1):Nat):Int)) (Au (iV ((k+1):Nat)) (Ac ?_))))
   refine⟨_,?_,(k+1),rfl,rfl,rfl,rfl,R,a0,T,rfl,(by omega),(Eg O (by simp[Rp,a2,u,e,x,f,g,n,z,w,L,y,G,a3,a4,a5,a6])),trivial⟩
   omega
  have a5:=lZ1 w
  refine Bx (kk bc ?_)
  refine Asb rfl rfl fun d5 d6 bj bk=>Arw (Ba FTest.f_sees Bxh rfl Afp M T) fun eq c9=>Arw (Ax Afp rfl c9) fun er al=>?_
  have du:=Can al
  refine l_v (Ci (el:=75) Bxq rfl al) (Arw (Ba Lab.f_kinds Bxd rfl Hw C R) fun es ca=>Arw (Ax Hw rfl ca) fun et am=>?_)
  have dv:=Can am
  refine l_v (Ci (el:=9) Bwy rfl am) (l_v (Dg rfl rfl) (l_k bk (Bu (t:=(d.sees.length:Int) != (l.kinds.length:Int)) rfl (fun B=>?_) (fun B=>?_))))
  ·have bu:=Ls B
   refine w_q rfl rfl fun d7 bl=>Au (iV 2) (l_k bl (Aj (Cah (Cam F I)) (Aq (E (rT (iV 2) ?_)))))
   have hi:inR l.most 0 (l.kinds.length:Int)=true:=Fz.2 G
   have hf:Hb l i=2:=by
    have htw:=(Xe fun j hj=>O j (by omega):(Cl i (Rp l d.name)).isSome=false)
    simp only[Hb,H,htw,u,e,x,f,g,n,z,w,B,if_true,Agm,if_false]
    rw[if_neg (by omega)]
   rw[Gh,Gr y,Jy,hi,if_pos rfl,if_neg (by omega),Db J (by omega) hf (by omega)]
  have bu:=Jh B
  refine Al (kk bj ?_)
  refine w_q rfl rfl fun d8 bm=>Au (iV 0) (l_k bm (Ao (Cc (fun mm ee dd ρ' σ'=>∃(q:Nat),(d.sees.length-q)=mm∧[]=dd∧ap=ρ'∧σ=σ'∧ee 1=pV k2∧ee 4=iV i∧ee 5=pV aa∧ee 7=iV q∧(q≤d.sees.length)∧(∀j,j<q→Nk d j=0)∧True) (m:=_) ⟨0,rfl,rfl,rfl,rfl,R,a0,T,rfl,Hz _,fun j h=>absurd h (Uk _),trivial⟩ ?_)))
  rintro e2 di _ _ _ ⟨q,rfl,rfl,rfl,rfl,a8,a9,U,V,e5,W,_⟩
  refine Asb rfl rfl fun d9 da bn bo=>l_v (Ah (v:=iV q) V) (Arw (Ba FTest.f_sees Bxh rfl Afp M U) fun eu cb=>Arw (Ax Afp rfl cb) fun ev an=>?_)
  have dw:=Can an
  refine l_v (Ci (el:=75) Bxq rfl an) (l_v (Da rfl rfl) (l_k bo (Bu (t:=decide ((q:Int)<(d.sees.length:Int))) rfl (fun D=>?_) (fun D=>?_))))
  ·have bv:=lZ2 D
   refine Al (kk bn ?_)
   refine Ai fun db bp=>Ao (w_q rfl rfl fun dc ab=>Arw (Ba FTest.f_sees Bxh rfl Afp M U) fun ew cc=>Arw (Ax Afp rfl cc) fun ex cd=>l_v (Ah (v:=iV q) V) ?_)
   obtain⟨P,N⟩:=Ed (xs:=d.sees) (i:=q) (by omega)
   refine Arw (Ch q Bxq Pi rfl cd (q:=(q:Int)) rfl rfl N) fun ey ao=>?_
   have⟨dx,dy⟩:=At.rng ao
   refine l_v (Bc Pi rfl ao) (l_v (Da rfl rfl) (Av (.bool (decide (P<0))) (Cn (decide (P<0)) (fun b=>?_) (fun b=>?_))))
   ·have bx:=lZ2 b
    refine Ap (gN rfl b) (Ap (gN rfl b) (Ap (gN rfl b) (Ap (gN rfl b) (Ap (gN rfl b) (Ap (gN rfl b) (l_v (Bt rfl b (v:=bT) rfl) (l_k ab (Co rfl rfl (w_q rfl rfl fun de bq=>Au (iV 1) (l_k bq (Aj (Cah (Cam F I)) (Aq (E (rT (iV 1) ?_))))))))))))))
    have hi:inR l.most 0 (l.kinds.length:Int)=true:=Fz.2 G
    have hf:Hb l i=1:=by
     have htw:=(Xe fun j hj=>O j (by omega):(Cl i (Rp l d.name)).isSome=false)
     have hq:Nk d q=1:=by simp only[Nk,N,u,e,x,f,g,n,z,w,B,D,b,bZl];rfl
     simp only[Hb,H,htw,u,e,x,f,g,n,z,w,B,D,b,if_true,Agm,if_false]
     rw[if_pos (by omega),Db W (by omega) hq (by omega)]
    rw[Gh,Gr y,Jy,hi,if_pos rfl,if_neg (by omega),Db J (by omega) hf (by omega)]
   have bx:=lZ1 b
   refine Ak (gY rfl b) (Ba FTest.f_sees Bxh rfl Afp M U) fun ez ce=>Ak (gY rfl b) (Ax Afp rfl ce) fun e6 bz=>Aa (gY rfl b) (Ah (v:=iV q) V) (Ak (gY rfl b) (Ch q Bxq Pi rfl bz (q:=(q:Int)) rfl rfl N) fun e7 ac=>?_)
   have⟨dj,dk⟩:=At.rng ac
   refine Aa (gY rfl b) (Bc Pi rfl ac) (Aa (gY rfl b) (Gl rfl rfl) (l_v (Bn rfl b (v:=.bool (decide (P>2))) rfl) (l_k ab (Bu (t:=decide (P>2)) rfl (fun K=>?_) (fun K=>?_)))))
   ·have br:=lZ2 K
    refine w_q rfl rfl fun ci av=>Au (iV 1) (l_k av (Aj (Cah (Cam F I)) (Aq (E (rT (iV 1) ?_)))))
    have hi:inR l.most 0 (l.kinds.length:Int)=true:=Fz.2 G
    have hf:Hb l i=1:=by
     have htw:=(Xe fun j hj=>O j (by omega):(Cl i (Rp l d.name)).isSome=false)
     have hq:Nk d q=1:=by simp only[Nk,N,u,e,x,f,g,n,z,w,B,D,b,K,bZl];rfl
     simp only[Hb,H,htw,u,e,x,f,g,n,z,w,B,D,b,K,if_true,Agm,if_false]
     rw[if_pos (by omega),Db W (by omega) hq (by omega)]
    rw[Gh,Gr y,Jy,hi,if_pos rfl,if_neg (by omega),Db J (by omega) hf (by omega)]
   have br:=lZ1 K
   refine Al (kk bp ?_)
   refine Ag rfl rfl (l_v (Ah (v:=iV q) V) (l_v (Dm (((q+1):Nat):Int)) (Au (iV ((q+1):Nat)) (Ac ?_))))
   refine⟨_,?_,(q+1),rfl,rfl,rfl,rfl,a8,a9,U,rfl,(by omega),(Eg W (by simp only[Nk,N,u,e,x,f,g,n,z,w,B,D,b,K,bZl];rfl)),trivial⟩
   omega
  have bv:=lZ1 D
  refine Bx (kk b6 ?_)
  refine Ag rfl rfl (l_v (Ah (v:=iV i) a9) (l_v (Dm (((i+1):Nat):Int)) (Au (iV ((i+1):Nat)) (Bj (Cah I) (Ac ?_)))))
  refine⟨_,?_,((i+1)),rfl,rfl,rfl,rfl,a8,rfl,(by omega),(Eg J (by
 have htw:=(Xe fun j hj=>O j (by omega):(Cl i (Rp l d.name)).isSome=false)
 simp only[Hb,H,htw,u,e,x,f,g,n,z,w,B,D,if_true,Agm,if_false]
 rw[if_pos (by omega),Fb fun j hj=>W j (by omega)])),trivial⟩
  omega
 have a4:=lZ1 g
 refine Bx (kk b2 ?_)
 refine w_q rfl rfl fun cj aw=>Au (iV 0) (l_k aw (Aj (Cah F) (Aq (E (rT (iV 0) ?_)))))
 have hi:inR l.most 0 (l.kinds.length:Int)=true:=Fz.2 G
 rw[Gh,Gr y,Jy,hi,if_pos rfl,if_neg (by omega),Fb fun j hj=>J j (by omega)]
theorem Aaz{l vl}(rl:Val ρ vl l):CallsH (CX mn X) 28 #[vl] ρ σ (rP ρ σ (iV (Gh l))):=by
 refine Bq 66 [2] Tryz.func28 rfl fun Q y di=>w_q rfl rfl fun K1 k1=>Arv (Eb (v:=vl) rfl fun k2=>?_)
 refine Bb (a:=l) rl fun c6 B E=>Au (iV 0) (Ary rfl rfl k1 fun K3 K4 k3 k4=>Arw (Ba Lab.f_kinds Bxd rfl Hw E) fun v5 r5=>Arw (Ax Hw rfl r5) fun v6 r6=>Arv (Ce (Mf r6) Cae ?_))
 refine Au (iV (Dd l.kinds 4)) (Arx rfl rfl k4 fun K7 k7=>Av (iV (Dd l.kinds 4)) (l_v (Dg rfl rfl) (l_k k7 (Bu (t:=Dd l.kinds 4 != 0) rfl (fun n=>?_) (fun n=>?_)))))
 ·have w:=Ls n
  refine w_q rfl rfl fun K9 k9=>Av (iV (Dd l.kinds 4)) (Au (iV (Dd l.kinds 4)) (l_k k9 (Aj (Cah B) (Aq (y (rT (iV (Dd l.kinds 4)) ?_))))))
  rw[Gh,Ry w]
 have w:=Jh n
 refine Al (kk k3 ?_)
 refine Ai fun c8 ar=>Ao (w_q rfl rfl fun c9 au=>Arw (Ba Lab.f_most Bxd rfl ty3 E) fun dp af=>?_)
 have⟨d5,d6⟩:=At.rng af
 refine l_v (Bc ty3 rfl af) (Arw (Ba Lab.f_kinds Bxd rfl Hw E) fun dq bv=>Arw (Ax Hw rfl bv) fun dr ag=>?_)
 have d7:=Can ag
 refine l_v (Ci (el:=9) Bwy rfl ag) (Arv (Ce Jl Bys ?_))
 refine l_v (Iy rfl) (Au (.bool (!(inR l.most 0 (l.kinds.length:Int)))) (l_k au (Bu (t:=!(inR l.most 0 (l.kinds.length:Int))) rfl (fun e=>?_) (fun e=>?_))))
 ·have aq:=not_eq_t e
  have bn:=Xb.1 aq
  refine w_q rfl rfl fun ca av=>Au (iV 1) (l_k av (Aj (Cah B) (Aq (y (rT (iV 1) ?_)))))
  have hi:inR l.most 0 (l.kinds.length:Int)=false:=Xb.2 bn
  rw[Gh,Gr w,Jy,hi];rfl
 have p:=not_eq_f e
 have J:=Fz.1 p
 refine w_q rfl rfl fun cb aw=>Arw (Ba Lab.f_tests Bxd rfl Vi E) fun ds bx=>Arw (Ax Vi rfl bx) fun dt ah=>?_
 have d8:=Can ah
 refine l_v (Ci (el:=46) Bxg rfl ah) (l_v (Gl rfl rfl) (Au (.bool (decide ((l.tests.length:Int)>5))) (l_k aw (Bu (t:=decide ((l.tests.length:Int)>5)) rfl (fun f=>?_) (fun f=>?_)))))
 ·have bo:=lZ2 f
  refine w_q rfl rfl fun cc ax=>Au (iV 2) (l_k ax (Aj (Cah B) (Aq (y (rT (iV 2) ?_)))))
  have hi:inR l.most 0 (l.kinds.length:Int)=true:=Fz.2 J
  rw[Gh,Gr w,Jy,hi,if_pos rfl,if_pos (by omega)]
 have bo:=lZ1 f
 refine Al (kk ar ?_)
 refine w_q rfl rfl fun cd ay=>Arv (Oh fun G=>?_)
 refine Au (.map (some G)) (Ary rfl rfl ay fun ce cf az b0=>Arw (Ba Lab.f_tests Bxd rfl Vi E) fun du bz=>Arw (Ax Vi rfl bz) fun an W=>?_)
 have d9:=Can W
 refine l_v (Ci (el:=46) Bxg rfl W) (Av (iV 0) (l_k b0 (Ao (Cc (fun mm ee dd ρ' σ'=>∃(i:Nat) (O:Array MapEntry) (a0:Nat),(l.tests.length-i)=mm∧[]=dd∧c6=ρ'∧((G,Res.obj (Obj.map O a0))::σ)=σ'∧ee 1=pV k2∧ee 31=an∧ee 32=(iV (l.tests.length:Int))∧ee 4=(.map (some G))∧ee 33=iV i∧(i≤l.tests.length)∧(∀j,j<i→Hb l j=0)∧Mu O (inL ((l.tests.map FTest.name).take i))∧True) (m:=_) ⟨0,#[],0,rfl,rfl,rfl,rfl,rfl,rfl,rfl,rfl,rfl,Hz _,fun j h=>absurd h (Uk _),Rl (fun k=>by simp[inL]) Uh,trivial⟩ ?_))))
 rintro dk d3 _ _ _ ⟨i,O,a0,rfl,rfl,rfl,rfl,a3,a4,a5,a6,P,dm,I,ao,_⟩
 refine w_q rfl rfl fun cg b1=>l_v (Da P a5) (Asa b1 fun ch b2=>Bu (t:=decide ((i:Int)<(l.tests.length:Int))) rfl (fun g=>?_) (fun g=>?_))
 ·have bp:=lZ2 g
  refine Al (kk b2 ?_)
  refine Ai fun ci b3=>Ao (w_q rfl rfl fun cj b4=>?_)
  obtain⟨d,C⟩:=Ed (xs:=l.tests) (i:=i) (by omega)
  refine Arw (Ch i Bxg Um a4 W (q:=(i:Int)) P rfl C) fun dv c0=>Arw (Ax Um rfl c0) fun c4 ai=>Arv (Ct Ws fun dj=>?_)
  refine Cx rfl (Dv (v:=c4) (a:=d) (c:=Aag) Um rfl rfl ai rfl ?_)
  refine Bb (a:=d) ai fun c7 H Y=>?_
  replace E:=At.mono H E
  refine Ary rfl rfl b4 fun ck cl b5 V=>l_v (Ah (v:=.map (some G)) a6) (Arw (Ba FTest.f_name Bxh rfl ty9 Y) fun dw aj=>?_)
  have da:=At.slen aj
  refine l_v (Pk ty9 rfl aj) (Arv (Cm (vs:=[.map (some G),.string d.name]) (Wx (i:=0) ao rfl (by omega)) Caf rfl rfl ⟨rfl,rfl,trivial⟩ fun e3 e4 e5 T=>?_))
  obtain⟨U,T⟩:=T
  replace U:=U.symm;subst U
  rcases T with⟨rfl,D,rfl⟩|⟨rfl,D,L,rfl⟩|⟨rfl,D,L,a2,a1,ap,rfl⟩
  ·refine Au (iV 4) (Arx rfl rfl V fun cm b6=>Av (iV 4) (l_v (Dg rfl rfl) (l_k b6 (Co rfl rfl (w_q rfl rfl fun cn b7=>Av (iV 4) (Au (iV 4) (l_k b7 (Aj Cag (Aj (Cah (Cam B H)) (Aq (y (rT (iV 4) ?_))))))))))))
   have hi:inR l.most 0 (l.kinds.length:Int)=true:=Fz.2 J
   have hf:Hb l i=4:=by
    simp[Hb,C,D,n,e,p,f,g]
   rw[Gh,Gr w,Jy,hi,if_pos rfl,if_neg (by omega),Db I (by omega) hf (by omega)]
  ·refine Au (iV 5) (Arx rfl rfl V fun co b9=>Av (iV 5) (l_v (Dg rfl rfl) (l_k b9 (Co rfl rfl (w_q rfl rfl fun cp ba=>Av (iV 5) (Au (iV 5) (l_k ba (Aj Cag (Aj (Cah (Cam B H)) (Aq (y (rT (iV 5) ?_))))))))))))
   have hi:inR l.most 0 (l.kinds.length:Int)=true:=Fz.2 J
   have hf:Hb l i=5:=by
    have htw:=Zn.1 L
    simp[Hb,C,D,htw,n,e,p,f,g]
   rw[Gh,Gr w,Jy,hi,if_pos rfl,if_neg (by omega),Db I (by omega) hf (by omega)]
  refine Au (iV 0) (Arx rfl rfl V fun cq bb=>Av (iV 0) (l_v (Dg rfl rfl) (l_k bb (Cg rfl rfl (Al (kk b5 ?_))))))
  refine Asb rfl rfl fun cr cs bc bd=>Arw (Ba FTest.f_sees Bxh rfl Afp Y) fun dx c1=>Arw (Ax Afp rfl c1) fun dy ak=>?_
  have db:=Can ak
  refine l_v (Ci (el:=75) Bxq rfl ak) (Arw (Ba Lab.f_kinds Bxd rfl Hw E a3) fun dz c2=>Arw (Ax Hw rfl c2) fun e0 al=>?_)
  have dc:=Can al
  refine l_v (Ci (el:=9) Bwy rfl al) (l_v (Dg rfl rfl) (l_k bd (Bu (t:=(d.sees.length:Int) != (l.kinds.length:Int)) rfl (fun u=>?_) (fun u=>?_))))
  ·have bq:=Ls u
   refine w_q rfl rfl fun ct be=>Au (iV 2) (l_k be (Aj Cag (Aj (Cah (Cam B H)) (Aq (y (rT (iV 2) ?_))))))
   have hi:inR l.most 0 (l.kinds.length:Int)=true:=Fz.2 J
   have hf:Hb l i=2:=by
    have htw:=Og L
    simp only[Hb,C,D,htw,n,e,p,f,g,u,if_true,Agm,if_false]
    rw[if_neg (by omega)]
   rw[Gh,Gr w,Jy,hi,if_pos rfl,if_neg (by omega),Db I (by omega) hf (by omega)]
  have bq:=Jh u
  refine Al (kk bc ?_)
  refine w_q rfl rfl fun cu bf=>Arw (Ba FTest.f_sees Bxh rfl Afp Y) fun e1 c3=>Arw (Ax Afp rfl c3) fun c5 Z=>?_
  have de:=Can Z
  refine l_v (Ci (el:=75) Bxq rfl Z) (Av (iV 0) (l_k bf (Ao (Cc (fun mm ee dd ρ' σ'=>∃(q:Nat),(d.sees.length-q)=mm∧[]=dd∧c7=ρ'∧((G,Res.obj (Obj.map a2 a1))::σ)=σ'∧ee 1=pV k2∧ee 4=(.map (some G))∧ee 31=an∧ee 32=(iV (l.tests.length:Int))∧ee 33=iV i∧ee 52=c5∧ee 53=(iV (d.sees.length:Int))∧ee 54=iV q∧(q≤d.sees.length)∧(∀j,j<q→Nk d j=0)∧True) (m:=_) ⟨0,rfl,rfl,rfl,rfl,a3,a6,a4,a5,P,rfl,rfl,rfl,Hz _,fun j h=>absurd h (Uk _),trivial⟩ ?_))))
  rintro dl d4 _ _ _ ⟨q,rfl,rfl,rfl,rfl,a7,ab,a8,a9,aa,ac,ad,R,dn,N,_⟩
  refine w_q rfl rfl fun cv bg=>l_v (Da R ad) (Asa bg fun cw bh=>Bu (t:=decide ((q:Int)<(d.sees.length:Int))) rfl (fun x=>?_) (fun x=>?_))
  ·have br:=lZ2 x
   refine Al (kk bh ?_)
   refine Ai fun cx bi=>Ao (w_q rfl rfl fun cy bj=>?_)
   obtain⟨F,M⟩:=Ed (xs:=d.sees) (i:=q) (by omega)
   refine Arw (Ch q Bxq Pi ac Z (q:=(q:Int)) R rfl M) fun e2 am=>?_
   have⟨df,dh⟩:=At.rng am
   refine l_v (Bc Pi rfl am) (Au (iV F) (Arx rfl rfl bj fun cz ae=>Av (iV F) (l_v (Da rfl rfl) (Av (.bool (decide (F<0))) (Cn (decide (F<0)) (fun b=>?_) (fun b=>?_))))))
   ·have bt:=lZ2 b
    refine Ap (gN rfl b) (Ap (gN rfl b) (l_v (Bt rfl b (v:=bT) rfl) (l_k ae (Co rfl rfl (w_q rfl rfl fun d0 bk=>Au (iV 1) (l_k bk (Aj Cag (Aj (Cah (Cam B H)) (Aq (y (rT (iV 1) ?_)))))))))))
    have hi:inR l.most 0 (l.kinds.length:Int)=true:=Fz.2 J
    have hf:Hb l i=1:=by
     have htw:=Og L
     have hq:Nk d q=1:=by simp only[Nk,M,n,e,p,f,g,u,x,b,bZl];rfl
     simp only[Hb,C,D,htw,n,e,p,f,g,u,x,b,if_true,Agm,if_false]
     rw[if_pos (by omega),Db N (by omega) hq (by omega)]
    rw[Gh,Gr w,Jy,hi,if_pos rfl,if_neg (by omega),Db I (by omega) hf (by omega)]
   have bt:=lZ1 b
   refine l_M (iV F) (gY rfl b) rfl (Aa (gY rfl b) (Gl rfl rfl) (l_v (Bn rfl b (v:=.bool (decide (F>2))) rfl) (l_k ae (Bu (t:=decide (F>2)) rfl (fun K=>?_) (fun K=>?_)))))
   ·have bu:=lZ2 K
    refine w_q rfl rfl fun d1 bl=>Au (iV 1) (l_k bl (Aj Cag (Aj (Cah (Cam B H)) (Aq (y (rT (iV 1) ?_))))))
    have hi:inR l.most 0 (l.kinds.length:Int)=true:=Fz.2 J
    have hf:Hb l i=1:=by
     have htw:=Og L
     have hq:Nk d q=1:=by simp only[Nk,M,n,e,p,f,g,u,x,b,K,bZl];rfl
     simp only[Hb,C,D,htw,n,e,p,f,g,u,x,b,K,if_true,Agm,if_false]
     rw[if_pos (by omega),Db N (by omega) hq (by omega)]
    rw[Gh,Gr w,Jy,hi,if_pos rfl,if_neg (by omega),Db I (by omega) hf (by omega)]
   have bu:=lZ1 K
   refine Al (kk bi ?_)
   refine Ag rfl rfl (l_v (Br R rfl (z:=(((q+1):Nat):Int)) wrE) (Av (iV ((q+1):Nat)) (Ac ?_)))
   refine⟨_,?_,(q+1),rfl,rfl,rfl,rfl,a7,ab,a8,a9,aa,ac,ad,rfl,(by omega),(Eg N (by simp only[Nk,M,n,e,p,f,g,u,x,b,K,bZl];rfl)),trivial⟩
   omega
  have br:=lZ1 x
  refine Bx (kk b3 ?_)
  refine Ag rfl rfl (l_v (Br aa rfl (z:=(((i+1):Nat):Int)) wrE) (Av (iV ((i+1):Nat)) (Bj (Cah H) (Ac ?_))))
  refine⟨_,?_,((i+1)),a2,a1,rfl,rfl,rfl,rfl,a7,a8,a9,ab,rfl,(by omega),(Eg I (by
 have htw:=Og L
 simp only[Hb,C,D,htw,n,e,p,f,g,u,x,if_true,Agm,if_false]
 rw[if_pos (by omega),Fb fun j hj=>N j (by omega)])),(Rl (Tq (by rw[Vl,C];rfl)) ap),trivial⟩
  omega
 have bp:=lZ1 g
 refine Bx (kk az ?_)
 refine w_q rfl rfl fun d2 bm=>Au (iV 0) (l_k bm (Aj Cag (Aj (Cah B) (Aq (y (rT (iV 0) ?_))))))
 have hi:inR l.most 0 (l.kinds.length:Int)=true:=Fz.2 J
 rw[Gh,Gr w,Jy,hi,if_pos rfl,if_neg (by omega),Fb fun j hj=>I j (by omega)]
end
section
open Go
/-- A valid lab,told without codes. -/
structure LabOk(l:Lab):Prop where
 kinds:Dd l.kinds 4=0
 most:0≤l.most∧l.most≤(l.kinds.length:Int)
 ntests:l.tests.length≤5
 test:∀(i:Nat) (t:FTest),l.tests[i]?=some t→Hg t.name=true∧t.sees.length=l.kinds.length
theorem Ll{l}(h:Gh l=0):LabOk l:=by
 unfold Gh at h
 rw[Jx]at h
 obtain⟨c,a⟩:=h
 unfold Jy at a
 split at a
 ·rename_i hin
  split at a
  ·cases a
  ·rename_i hn
   rw[Fx]at a
   refine⟨c,Fz.1 hin,by omega,fun i t ht=>?_⟩
   have b:=a i (Mq.1 ht).1
   simp only[Hb,ht]at b
   split at b
   ·rename_i ha
    split at b
    ·cases b
    ·split at b
     ·rename_i hb;exact⟨ha,by omega⟩
     ·cases b
   ·cases b
 ·cases a
end
section
open Go
variable{mn:Bool}{X:Frame→List Frame→Ro→Own→Cy→Prop}{ρ:Ro}{σ:Own}
theorem Brk{m:Market}{vm}(rm:Val ρ vm m):CallsH (CX mn X) 6 #[vm] ρ σ (fun w ρ' σ'=>ρ'=ρ∧σ'=σ∧∃b,w = .bool b):=by
 refine Bq 101 [2] Tryz.func6 rfl fun Q g dk=>w_q rfl rfl fun K1 k1=>Arv (Eb (v:=vm) rfl fun B=>?_)
 refine Bb (a:=m) rm fun D h f=>Au bF (Ary rfl rfl k1 fun K3 K4 k3 C=>Arw (Ba Market.f_houses Bxa rfl Hw f) fun v5 r5=>Arw (Ax Hw rfl r5) fun v6 r6=>?_)
 have g7:=Can r6
 refine l_v (Ci (el:=9) Bwy rfl r6) (l_v (Gl rfl rfl) (Av (.bool (decide ((m.houses.length:Int)>40))) (Cn (decide ((m.houses.length:Int)>40)) (fun e=>?_) (fun e=>?_))))
 ·have q8:=lZ2 e
  refine Ap (gN rfl e) (Ap (gN rfl e) (Ap (gN rfl e) (Ap (gN rfl e) (l_v (Bt rfl e (v:=bT) rfl) (Av bT (Ap (gN rfl rfl) (Ap (gN rfl rfl) (Ap (gN rfl rfl) (Ap (gN rfl rfl) (l_v (Bt rfl rfl (v:=bT) rfl) (Av bT (Ap (gN rfl rfl) (Ap (gN rfl rfl) (Ap (gN rfl rfl) (Ap (gN rfl rfl) (l_v (Bt rfl rfl (v:=bT) rfl) (l_k C (Co rfl rfl (w_q rfl rfl fun K9 k9=>Au bT (l_k k9 (Aj (Cah h) (Aq (g ⟨rfl,rfl,_,rfl⟩)))))))))))))))))))))))
 have q8:=lZ1 e
 refine Ak (gY rfl e) (Ba Market.f_marks Bxa rfl Hw f) fun du bj=>Ak (gY rfl e) (Ax Hw rfl bj) fun dv W=>?_
 have d6:=Can W
 refine Aa (gY rfl e) (Ci (el:=9) Bwy rfl W) (Aa (gY rfl e) (Gl rfl rfl) (l_v (Bn rfl e (v:=.bool (decide ((m.marks.length:Int)>40))) rfl) (Av (.bool (decide ((m.marks.length:Int)>40))) (Cn (decide ((m.marks.length:Int)>40)) (fun c=>?_) (fun c=>?_)))))
 ·have bb:=lZ2 c
  refine Ap (gN rfl c) (Ap (gN rfl c) (Ap (gN rfl c) (Ap (gN rfl c) (l_v (Bt rfl c (v:=bT) rfl) (Av bT (Ap (gN rfl rfl) (Ap (gN rfl rfl) (Ap (gN rfl rfl) (Ap (gN rfl rfl) (l_v (Bt rfl rfl (v:=bT) rfl) (l_k C (Co rfl rfl (w_q rfl rfl fun ca af=>Au bT (l_k af (Aj (Cah h) (Aq (g ⟨rfl,rfl,_,rfl⟩)))))))))))))))))
 have bb:=lZ1 c
 refine Ak (gY rfl c) (Ba Market.f_fields Bxa rfl Se f) fun dw bk=>Ak (gY rfl c) (Ax Se rfl bk) fun dx Y=>?_
 have d7:=Can Y
 refine Aa (gY rfl c) (Ci (el:=51) Bxn rfl Y) (Aa (gY rfl c) (Gl rfl rfl) (l_v (Bn rfl c (v:=.bool (decide ((m.fields.length:Int)>40))) rfl) (Av (.bool (decide ((m.fields.length:Int)>40))) (Cn (decide ((m.fields.length:Int)>40)) (fun d=>?_) (fun d=>?_)))))
 ·have bc:=lZ2 d
  refine Ap (gN rfl d) (Ap (gN rfl d) (Ap (gN rfl d) (Ap (gN rfl d) (l_v (Bt rfl d (v:=bT) rfl) (l_k C (Co rfl rfl (w_q rfl rfl fun cb ag=>Au bT (l_k ag (Aj (Cah h) (Aq (g ⟨rfl,rfl,_,rfl⟩)))))))))))
 have bc:=lZ1 d
 refine Ak (gY rfl d) (Ba Market.f_sales Bxa rfl Qn f) fun dy bl=>Ak (gY rfl d) (Ax Qn rfl bl) fun dz Z=>?_
 have d8:=Can Z
 refine Aa (gY rfl d) (Ci (el:=54) Bxk rfl Z) (Aa (gY rfl d) (Gl rfl rfl) (l_v (Bn rfl d (v:=.bool (decide ((m.sales.length:Int)>40))) rfl) (l_k C (Bu (t:=decide ((m.sales.length:Int)>40)) rfl (fun F=>?_) (fun F=>?_)))))
 ·have bd:=lZ2 F
  refine w_q rfl rfl fun cc ah=>Au bT (l_k ah (Aj (Cah h) (Aq (g ⟨rfl,rfl,_,rfl⟩))))
 have bd:=lZ1 F
 refine Al (kk k3 ?_)
 refine w_q rfl rfl fun cd ai=>Au (iV 0) (Ary rfl rfl ai fun ce cf aj ak=>Au (iV 0) (l_k ak (Ao (Cc (fun mm ee dd ρ' σ'=>∃(i:Nat) (n:Int),(m.houses.length-i)=mm∧[]=dd∧D=ρ'∧σ=σ'∧ee 1=pV B∧ee 3=iV n∧ee 4=iV i∧(i≤m.houses.length)∧True) (m:=_) ⟨0,0,rfl,rfl,rfl,rfl,rfl,rfl,rfl,Hz _,trivial⟩ ?_))))
 rintro dl d2 _ _ _ ⟨i,n,rfl,rfl,rfl,rfl,u,P,L,dq,_⟩
 refine Asb rfl rfl fun cg ch al am=>l_v (Ah (v:=iV i) L) (Arw (Ba Market.f_houses Bxa rfl Hw f u) fun e0 bm=>Arw (Ax Hw rfl bm) fun e1 a0=>?_)
 have d9:=Can a0
 refine l_v (Ci (el:=9) Bwy rfl a0) (l_v (Da rfl rfl) (l_k am (Bu (t:=decide ((i:Int)<(m.houses.length:Int))) rfl (fun G=>?_) (fun G=>?_))))
 ·have be:=lZ2 G
  refine Al (kk al ?_)
  refine Ai fun ci an=>Ao (Ag rfl rfl (l_v (Ah (v:=iV n) P) (Arw (Ba Market.f_houses Bxa rfl Hw f u) fun e2 bn=>Arw (Ax Hw rfl bn) fun e3 bo=>l_v (Ah (v:=iV i) L) ?_)))
  obtain⟨l,aa⟩:=Ed (xs:=m.houses) (i:=i) (by omega)
  refine Arw (Ch i Bwy ty9 rfl bo (q:=(i:Int)) rfl rfl aa) fun e4 a1=>?_
  have da:=At.slen a1
  refine l_v (Pk ty9 rfl a1) (l_v (Afz Bwz (s:=l) rfl) (l_v (Br rfl rfl (z:=IntKind.i64.wrap (n+(l.size:Int))) rfl) (Au (iV (IntKind.i64.wrap (n+(l.size:Int)))) (l_k an (Ag rfl rfl (l_v (Ah (v:=iV i) L) (l_v (Dm (((i+1):Nat):Int)) (Au (iV ((i+1):Nat)) (Ac ?_)))))))))
  refine⟨_,?_,(i+1),(IntKind.i64.wrap (n+(l.size:Int))),rfl,rfl,rfl,rfl,u,rfl,rfl,(by omega),trivial⟩
  omega
 have be:=lZ1 G
 refine Bx (kk aj ?_)
 refine Asb rfl rfl fun cj ck ao ap=>Au (iV 0) (l_k ap (Ao (Cc (fun mm ee dd ρ' σ'=>∃(i:Nat) (n:Int),(m.marks.length-i)=mm∧[]=dd∧D=ρ'∧σ=σ'∧ee 1=pV B∧ee 3=iV n∧ee 5=iV i∧(i≤m.marks.length)∧True) (m:=_) ⟨0,n,rfl,rfl,rfl,rfl,u,P,rfl,Hz _,trivial⟩ ?_)))
 rintro dm d3 _ _ _ ⟨i,n,rfl,rfl,rfl,rfl,x,R,M,dr,_⟩
 refine Asb rfl rfl fun cl cm aq ar=>l_v (Ah (v:=iV i) M) (Arw (Ba Market.f_marks Bxa rfl Hw f x) fun e5 bp=>Arw (Ax Hw rfl bp) fun e6 a2=>?_)
 have db:=Can a2
 refine l_v (Ci (el:=9) Bwy rfl a2) (l_v (Da rfl rfl) (l_k ar (Bu (t:=decide ((i:Int)<(m.marks.length:Int))) rfl (fun H=>?_) (fun H=>?_))))
 ·have bf:=lZ2 H
  refine Al (kk aq ?_)
  refine Ai fun cn au=>Ao (Ag rfl rfl (l_v (Ah (v:=iV n) R) (Arw (Ba Market.f_marks Bxa rfl Hw f x) fun e7 bq=>Arw (Ax Hw rfl bq) fun e8 br=>l_v (Ah (v:=iV i) M) ?_)))
  obtain⟨p,ab⟩:=Ed (xs:=m.marks) (i:=i) (by omega)
  refine Arw (Ch i Bwy ty9 rfl br (q:=(i:Int)) rfl rfl ab) fun e9 a3=>?_
  have dc:=At.slen a3
  refine l_v (Pk ty9 rfl a3) (l_v (Afz Bwz (s:=p) rfl) (l_v (Br rfl rfl (z:=IntKind.i64.wrap (n+(p.size:Int))) rfl) (Au (iV (IntKind.i64.wrap (n+(p.size:Int)))) (l_k au (Ag rfl rfl (l_v (Ah (v:=iV i) M) (l_v (Dm (((i+1):Nat):Int)) (Au (iV ((i+1):Nat)) (Ac ?_)))))))))
  refine⟨_,?_,(i+1),(IntKind.i64.wrap (n+(p.size:Int))),rfl,rfl,rfl,rfl,x,rfl,rfl,(by omega),trivial⟩
  omega
 have bf:=lZ1 H
 refine Bx (kk ao ?_)
 refine Asb rfl rfl fun co cp av aw=>Au (iV 0) (l_k aw (Ao (Cc (fun mm ee dd ρ' σ'=>∃(i:Nat) (n:Int),(m.fields.length-i)=mm∧[]=dd∧D=ρ'∧σ=σ'∧ee 1=pV B∧ee 3=iV n∧ee 6=iV i∧(i≤m.fields.length)∧True) (m:=_) ⟨0,n,rfl,rfl,rfl,rfl,x,R,rfl,Hz _,trivial⟩ ?_)))
 rintro dn d4 _ _ _ ⟨i,n,rfl,rfl,rfl,rfl,k,T,y,ds,_⟩
 refine Asb rfl rfl fun cq cr ax ay=>l_v (Ah (v:=iV i) y) (Arw (Ba Market.f_fields Bxa rfl Se f k) fun ea bt=>Arw (Ax Se rfl bt) fun eb a4=>?_)
 have de:=Can a4
 refine l_v (Ci (el:=51) Bxn rfl a4) (l_v (Da rfl rfl) (l_k ay (Bu (t:=decide ((i:Int)<(m.fields.length:Int))) rfl (fun I=>?_) (fun I=>?_))))
 ·have bg:=lZ2 I
  refine Al (kk ax ?_)
  refine Ai fun cs az=>Ao (Asb rfl rfl fun ct cu b0 b1=>Arw (Ba Market.f_fields Bxa rfl Se f k) fun ec bu=>Arw (Ax Se rfl bu) fun ed bv=>l_v (Ah (v:=iV i) y) ?_)
  obtain⟨j,V⟩:=Ed (xs:=m.fields) (i:=i) (by omega)
  refine Arw (Ch i Bxn Lo rfl bv (q:=(i:Int)) rfl rfl V) fun ef bx=>Arw (Ba FField.f_marks Bxf rfl Uo bx) fun eg bz=>Arw (Ax Uo rfl bz) fun eh a5=>?_
  have df:=Can a5
  refine l_v (Ci (el:=48) Bxi rfl a5) (l_v (Gl rfl rfl) (l_k b1 (Bu (t:=decide ((j.marks.length:Int)>40)) rfl (fun J=>?_) (fun J=>?_))))
  ·have bh:=lZ2 J
   refine w_q rfl rfl fun cv b2=>Au bT (l_k b2 (Aj (Cah h) (Aq (g ⟨rfl,rfl,_,rfl⟩))))
  have bh:=lZ1 J
  refine Al (kk b0 ?_)
  refine Ag rfl rfl (l_v (Ah (v:=iV n) T) (Arw (Ba Market.f_fields Bxa rfl Se f k) fun ei c0=>Arw (Ax Se rfl c0) fun ej c1=>l_v (Ah (v:=iV i) y) (Arw (Ch i Bxn Lo rfl c1 (q:=(i:Int)) rfl rfl V) fun ek c2=>Arw (Ba FField.f_name Bxf rfl ty9 c2) fun em a6=>?_)))
  have dh:=At.slen a6
  refine l_v (Pk ty9 rfl a6) (l_v (Afz Bwz (s:=j.name) rfl) (l_v (Br rfl rfl (z:=IntKind.i64.wrap (n+(j.name.size:Int))) rfl) (Au (iV (IntKind.i64.wrap (n+(j.name.size:Int)))) (l_k az (Ag rfl rfl (l_v (Ah (v:=iV i) y) (l_v (Dm (((i+1):Nat):Int)) (Au (iV ((i+1):Nat)) (Ac ?_)))))))))
  refine⟨_,?_,(i+1),(IntKind.i64.wrap (n+(j.name.size:Int))),rfl,rfl,rfl,rfl,k,rfl,rfl,(by omega),trivial⟩
  omega
 have bg:=lZ1 I
 refine Bx (kk av ?_)
 refine Asb rfl rfl fun cw cx b3 b4=>Au (iV 0) (l_k b4 (Ao (Cc (fun mm ee dd ρ' σ'=>∃(i:Nat),(m.sales.length-i)=mm∧[]=dd∧D=ρ'∧σ=σ'∧ee 1=pV B∧ee 3=iV n∧ee 7=iV i∧(i≤m.sales.length)∧True) (m:=_) ⟨0,rfl,rfl,rfl,rfl,k,T,rfl,Hz _,trivial⟩ ?_)))
 rintro dp d5 _ _ _ ⟨i,rfl,rfl,rfl,rfl,N,U,O,dt,_⟩
 refine Asb rfl rfl fun cy cz b5 b6=>l_v (Ah (v:=iV i) O) (Arw (Ba Market.f_sales Bxa rfl Qn f N) fun en c3=>Arw (Ax Qn rfl c3) fun eo a7=>?_)
 have di:=Can a7
 refine l_v (Ci (el:=54) Bxk rfl a7) (l_v (Da rfl rfl) (l_k b6 (Bu (t:=decide ((i:Int)<(m.sales.length:Int))) rfl (fun K=>?_) (fun K=>?_))))
 ·have bi:=lZ2 K
  refine Al (kk b5 ?_)
  refine Ai fun d0 b7=>Ao (w_q rfl rfl fun d1 b9=>Arw (Ba Market.f_sales Bxa rfl Qn f N) fun ep c4=>Arw (Ax Qn rfl c4) fun eq c5=>l_v (Ah (v:=iV i) O) ?_)
  obtain⟨a9,ac⟩:=Ed (xs:=m.sales) (i:=i) (by omega)
  refine Arw (Ch i Bxk Up rfl c5 (q:=(i:Int)) rfl rfl ac) fun er c6=>Arw (Ba Sale.f_sellers Bxm rfl Vh c6) fun es c7=>Arw (Ax Vh rfl c7) fun et a8=>?_
  have dj:=Can a8
  refine l_v (Ci (el:=3) Bxj rfl a8) (l_v (Gl rfl rfl) (l_k b9 (Bu (t:=decide ((a9.sellers.length:Int)>40)) rfl (fun E=>?_) (fun E=>?_))))
  ·have ba:=lZ2 E
   refine w_q rfl rfl fun c8 ad=>Au bT (l_k ad (Aj (Cah h) (Aq (g ⟨rfl,rfl,_,rfl⟩))))
  have ba:=lZ1 E
  refine Al (kk b7 ?_)
  refine Ag rfl rfl (l_v (Ah (v:=iV i) O) (l_v (Dm (((i+1):Nat):Int)) (Au (iV ((i+1):Nat)) (Ac ?_))))
  refine⟨_,?_,(i+1),rfl,rfl,rfl,rfl,N,U,rfl,(by omega),trivial⟩
  omega
 have bi:=lZ1 K
 refine Bx (kk b3 ?_)
 refine w_q rfl rfl fun c9 ae=>l_v (Ah (v:=iV n) U) (l_v (Gl rfl rfl) (Au (.bool (decide (n>1000))) (l_k ae (Aj (Cah h) (Aq (g ⟨rfl,rfl,_,rfl⟩))))))
theorem Bmn{l:Lab}{vl}(rl:Val ρ vl l):CallsH (CX mn X) 5 #[vl] ρ σ (fun w ρ' σ'=>ρ'=ρ∧σ'=σ∧∃b,w = .bool b):=by
 refine Bq 57 [2] Tryz.func5 rfl fun Q k bi=>w_q rfl rfl fun K1 T=>Arv (Eb (v:=vl) rfl fun G=>?_)
 refine Bb (a:=l) rl fun P p d=>Au bF (Ary rfl rfl T fun K3 K4 k3 H=>Arw (Ba Lab.f_kinds Bxd rfl Hw d) fun v5 r5=>Arw (Ax Hw rfl r5) fun v6 O=>?_)
 have g7:=Can O
 refine l_v (Ci (el:=9) Bwy rfl O) (l_v (Gl rfl rfl) (Av (.bool (decide ((l.kinds.length:Int)>40))) (Cn (decide ((l.kinds.length:Int)>40)) (fun c=>?_) (fun c=>?_))))
 ·have q8:=lZ2 c
  refine Ap (gN rfl c) (Ap (gN rfl c) (Ap (gN rfl c) (Ap (gN rfl c) (l_v (Bt rfl c (v:=bT) rfl) (l_k H (Co rfl rfl (w_q rfl rfl fun K9 k9=>Au bT (l_k k9 (Aj (Cah p) (Aq (k ⟨rfl,rfl,_,rfl⟩)))))))))))
 have q8:=lZ1 c
 refine Ak (gY rfl c) (Ba Lab.f_tests Bxd rfl Vi d) fun bn af=>Ak (gY rfl c) (Ax Vi rfl af) fun bo I=>?_
 have bc:=Can I
 refine Aa (gY rfl c) (Ci (el:=46) Bxg rfl I) (Aa (gY rfl c) (Gl rfl rfl) (l_v (Bn rfl c (v:=.bool (decide ((l.tests.length:Int)>40))) rfl) (l_k H (Bu (t:=decide ((l.tests.length:Int)>40)) rfl (fun u=>?_) (fun u=>?_)))))
 ·have ab:=lZ2 u
  refine w_q rfl rfl fun ar U=>Au bT (l_k U (Aj (Cah p) (Aq (k ⟨rfl,rfl,_,rfl⟩))))
 have ab:=lZ1 u
 refine Al (kk k3 ?_)
 refine w_q rfl rfl fun au V=>Au (iV 0) (Ary rfl rfl V fun av aw W Y=>Au (iV 0) (l_k Y (Ao (Cc (fun mm ee dd ρ' σ'=>∃(i:Nat) (n:Int),(l.kinds.length-i)=mm∧[]=dd∧P=ρ'∧σ=σ'∧ee 1=pV G∧ee 3=iV n∧ee 4=iV i∧(i≤l.kinds.length)∧True) (m:=_) ⟨0,0,rfl,rfl,rfl,rfl,rfl,rfl,rfl,Hz _,trivial⟩ ?_))))
 rintro bj ba _ _ _ ⟨i,n,rfl,rfl,rfl,rfl,g,D,C,bl,_⟩
 refine Asb rfl rfl fun ax ay Z a0=>l_v (Ah (v:=iV i) C) (Arw (Ba Lab.f_kinds Bxd rfl Hw d g) fun bp ag=>Arw (Ax Hw rfl ag) fun bq J=>?_)
 have bd:=Can J
 refine l_v (Ci (el:=9) Bwy rfl J) (l_v (Da rfl rfl) (l_k a0 (Bu (t:=decide ((i:Int)<(l.kinds.length:Int))) rfl (fun x=>?_) (fun x=>?_))))
 ·have ac:=lZ2 x
  refine Al (kk Z ?_)
  refine Ai fun az a1=>Ao (Ag rfl rfl (l_v (Ah (v:=iV n) D) (Arw (Ba Lab.f_kinds Bxd rfl Hw d g) fun br ah=>Arw (Ax Hw rfl ah) fun bt ai=>l_v (Ah (v:=iV i) C) ?_)))
  obtain⟨f,R⟩:=Ed (xs:=l.kinds) (i:=i) (by omega)
  refine Arw (Ch i Bwy ty9 rfl ai (q:=(i:Int)) rfl rfl R) fun bu K=>?_
  have be:=At.slen K
  refine l_v (Pk ty9 rfl K) (l_v (Afz Bwz (s:=f) rfl) (l_v (Br rfl rfl (z:=IntKind.i64.wrap (n+(f.size:Int))) rfl) (Au (iV (IntKind.i64.wrap (n+(f.size:Int)))) (l_k a1 (Ag rfl rfl (l_v (Ah (v:=iV i) C) (l_v (Dm (((i+1):Nat):Int)) (Au (iV ((i+1):Nat)) (Ac ?_)))))))))
  refine⟨_,?_,(i+1),(IntKind.i64.wrap (n+(f.size:Int))),rfl,rfl,rfl,rfl,g,rfl,rfl,(by omega),trivial⟩
  omega
 have ac:=lZ1 x
 refine Bx (kk W ?_)
 refine Asb rfl rfl fun b0 b1 a2 a3=>Au (iV 0) (l_k a3 (Ao (Cc (fun mm ee dd ρ' σ'=>∃(i:Nat) (n:Int),(l.tests.length-i)=mm∧[]=dd∧P=ρ'∧σ=σ'∧ee 1=pV G∧ee 3=iV n∧ee 5=iV i∧(i≤l.tests.length)∧True) (m:=_) ⟨0,n,rfl,rfl,rfl,rfl,g,D,rfl,Hz _,trivial⟩ ?_)))
 rintro bk bb _ _ _ ⟨i,n,rfl,rfl,rfl,rfl,h,E,j,bm,_⟩
 refine Asb rfl rfl fun b2 b3 a4 a5=>l_v (Ah (v:=iV i) j) (Arw (Ba Lab.f_tests Bxd rfl Vi d h) fun bv aj=>Arw (Ax Vi rfl aj) fun bx L=>?_)
 have bf:=Can L
 refine l_v (Ci (el:=46) Bxg rfl L) (l_v (Da rfl rfl) (l_k a5 (Bu (t:=decide ((i:Int)<(l.tests.length:Int))) rfl (fun y=>?_) (fun y=>?_))))
 ·have ad:=lZ2 y
  refine Al (kk a4 ?_)
  refine Ai fun b4 a6=>Ao (Asb rfl rfl fun b5 b6 a7 a8=>Arw (Ba Lab.f_tests Bxd rfl Vi d h) fun bz ak=>Arw (Ax Vi rfl ak) fun c0 al=>l_v (Ah (v:=iV i) j) ?_)
  obtain⟨e,F⟩:=Ed (xs:=l.tests) (i:=i) (by omega)
  refine Arw (Ch i Bxg Um rfl al (q:=(i:Int)) rfl rfl F) fun c1 am=>Arw (Ba FTest.f_sees Bxh rfl Afp am) fun c2 an=>Arw (Ax Afp rfl an) fun c3 M=>?_
  have bg:=Can M
  refine l_v (Ci (el:=75) Bxq rfl M) (l_v (Gl rfl rfl) (l_k a8 (Bu (t:=decide ((e.sees.length:Int)>40)) rfl (fun B=>?_) (fun B=>?_))))
  ·have ae:=lZ2 B
   refine w_q rfl rfl fun b7 a9=>Au bT (l_k a9 (Aj (Cah p) (Aq (k ⟨rfl,rfl,_,rfl⟩))))
  have ae:=lZ1 B
  refine Al (kk a7 ?_)
  refine Ag rfl rfl (l_v (Ah (v:=iV n) E) (Arw (Ba Lab.f_tests Bxd rfl Vi d h) fun c4 ao=>Arw (Ax Vi rfl ao) fun c5 ap=>l_v (Ah (v:=iV i) j) (Arw (Ch i Bxg Um rfl ap (q:=(i:Int)) rfl rfl F) fun c6 aq=>Arw (Ba FTest.f_name Bxh rfl ty9 aq) fun c7 N=>?_)))
  have bh:=At.slen N
  refine l_v (Pk ty9 rfl N) (l_v (Afz Bwz (s:=e.name) rfl) (l_v (Br rfl rfl (z:=IntKind.i64.wrap (n+(e.name.size:Int))) rfl) (Au (iV (IntKind.i64.wrap (n+(e.name.size:Int)))) (l_k a6 (Ag rfl rfl (l_v (Ah (v:=iV i) j) (l_v (Dm (((i+1):Nat):Int)) (Au (iV ((i+1):Nat)) (Ac ?_)))))))))
  refine⟨_,?_,(i+1),(IntKind.i64.wrap (n+(e.name.size:Int))),rfl,rfl,rfl,rfl,h,rfl,rfl,(by omega),trivial⟩
  omega
 have ad:=lZ1 y
 refine Bx (kk a2 ?_)
 refine w_q rfl rfl fun b9 aa=>l_v (Ah (v:=iV n) E) (l_v (Gl rfl rfl) (Au (.bool (decide (n>1000))) (l_k aa (Aj (Cah p) (Aq (k ⟨rfl,rfl,_,rfl⟩))))))
end
section
open Go
/-- What the results of a function are,at its end. -/
def Akh(P:Program)(ρ:Ro)(σ:Own)(e:Env):ResultVar→Value→Prop
 | .tmp t,v=>e t=v
 | .cell a t,v=>∀Q:Value→Own→Prop,Q v σ→wpS P ρ (do loadVar t (←asAddr (e a))) σ Q
def Agf(P:Program)(ρ:Ro)(σ:Own)(e:Env):List ResultVar→List Value→Prop
 | [],[]=>True
 | r::rs,v::vs=>Akh P ρ σ e r v∧Agf P ρ σ e rs vs
 | _,_=>False
def Adi:List Value→Value
 | [v]=>v
 | vs=>.tuple vs.toArray
theorem Vf{P ρ σ fn rs vs e Q}(hr:fn.results=rs.toArray)(hl:Agf P ρ σ e rs vs)(h:Q (Adi vs) σ):wpS P ρ (Hp fn e) σ Q:=by
 have key:∀(g:ResultVar→Sem Value) (_:∀r v,Akh P ρ σ e r v→∀Q:Value→Own→Prop,Q v σ→wpS P ρ (g r) σ Q) (rs:List ResultVar) (vs:List Value) (acc:Array Value) (Q:Array Value→Own→Prop),Agf P ρ σ e rs vs→Q (acc++vs.toArray) σ→wpS P ρ (List.foldlM (m:=Sem) (fun (bs:Array Value) (a:ResultVar)=>Functor.map bs.push (g a)) acc rs) σ Q:=by
  intro g hg rs
  induction rs with
  | nil =>
   intro vs acc Q hl h
   cases vs with
   | nil=>show Q acc σ;simpa using h
   | cons v vs=>exact hl.elim
  | cons r rs ih =>
   intro vs acc Q hl h
   cases vs with
   | nil=>exact hl.elim
   | cons v vs =>
    obtain⟨c,d⟩:=hl
    rw[Bfc]
    show wpS P ρ (((g r).bind fun x=>pure (acc.push x)).bind _) σ Q
    rw[Ad,Ad]
    refine hg r v c _ ?_
    refine ih vs (acc.push v) Q d ?_
    have b:acc.push v++vs.toArray=acc++(v::vs).toArray:=by simp
    rw[b];exact h
 unfold Hp
 rw[hr,Bjn,Bix]
 show wpS P ρ (Sem.bind _ _) σ Q
 rw[Ad]
 refine key _ ?_ rs vs #[] _ hl ?_
 ·intro r v hv Q hQ
  cases r with
  | tmp t=>cases hv;exact hQ
  | cell a t=>exact hv Q hQ
 ·rw[Alv]
  show Q _ σ
  cases vs with
  | nil=>exact h
  | cons v vs =>
   cases vs with
   | nil=>exact h
   | cons w vs=>simpa[Adi]using h
theorem Rj{P ρ σ e}{a off i:Nat}{t t' r}{c:List Value}{fz v}(hT:∃d,P.underlying t=some d∧Qv d=false)(ha:e a = .pointer (some ⟨r,off,none⟩))(hi:σ[i]?=some (r,.obj (.cells c.toArray t' fz)))(hc:c[off]?=some v):Akh P ρ σ e (.cell a t) v:=by
 intro Q hQ
 rw[ha]
 show wpS P ρ (loadVar t ⟨r,off,none⟩) σ _
 show wpS P ρ ((isAgg t).bind _) σ _
 rw[Ad]
 refine Hi hT ?_
 exact⟨rfl,rfl,_,v,.inr (lZ8 hi),by simpa[Gy]using hc,hQ⟩
theorem Lt{C f fn c n args ρ σ R}(rs:List ResultVar)(hf:C.P.funcs[f]?=some fn)(hc:fn.body=some c)(hn:fn.ntmps=n)(ha:Nat.ble args.length n=true)(hr:fn.results=rs.toArray)(h:∀Q:Hu,(∀e ρ' σ' ρ'' σ'' vs,Agf C.P ρ' σ' e rs vs→Ghost ρ' σ' ρ'' σ''→R (Adi vs) ρ'' σ''→Q .ret e [] ρ' σ')→(∀e ρ' σ' ρ'' σ'' vs,Agf C.P ρ' σ' e rs vs→Ghost ρ' σ' ρ'' σ''→R (Adi vs) ρ'' σ''→Q .normal e [] ρ' σ')→WpC C ⟨f,.normal,none⟩ n c Q (Pn args) [] ρ σ):CallsH C f args.toArray ρ σ R:=by
 have a:CallsH C f args.toArray ρ σ (fun v ρ' σ'=>∃ρ'' σ'',Ghost ρ' σ' ρ'' σ''∧R v ρ'' σ''):=by
  refine Oy hf hc hn (Qz ha) (h _ (fun e ρ' σ' ρ'' σ'' vs hl hg hR=>⟨fun id h=>(by cases h),?_⟩) (fun e ρ' σ' ρ'' σ'' vs hl hg hR=>⟨fun id h=>(by cases h),?_⟩)) <;>
  exact Vf (Q:=fun v σ'=>∃ρ'' σ'',Ghost ρ' σ' ρ'' σ''∧R v ρ'' σ'') hr hl ⟨ρ'',σ'',hg,hR⟩
 intro c' cs
 refine(a c' cs).bind ?_
 rintro _ _ ρ' σ' ⟨v,rfl,rfl,ρ'',σ'',hg,hR⟩
 exact .ghost hg (.stop ⟨v,rfl,rfl,hR⟩)
section
variable{C:Ctx}{e:Env}{ds:List Deferred}{ρ:Ro}{σ:Own}{K:Value→List Deferred→Ro→Own→Prop}{rd:Option Nat}{dd:Option Tmp}
variable{ty:TypeId}{pos:String}{af:Array Edge}{g:Option (Nat×Bool)}{x y:Operand}{v:Value}{t t':TypeId}
end
section
variable{C:Ctx}{e:Env}{ds:List Deferred}{ρ:Ro}{σ:Own}{K:Value→List Deferred→Ro→Own→Prop}{rd:Option Nat}{dd:Option Tmp}
variable{ty:TypeId}{pos:String}{af:Array Edge}{g:Option (Nat×Bool)}{x y:Operand}{v:Value}{t t':TypeId}
theorem Gu{r off}{c:List Value}{fz}(hT:∃d,C.P.underlying t=some d∧Qv d=false)(hx:Af e x = .pointer (some ⟨r,off,none⟩))(hi:(r,Res.obj (.cells c.toArray t' fz))∈σ)(hc:c[off]?=some v)(h:K v ds ρ σ):
  wpS C.P ρ (execOp (Af e) ⟨dd,.load t x,ty,pos,af,g⟩) σ (NextH C K rd ds ρ):=by
 obtain⟨i,hi⟩:=Apf.1 hi
 exact Dt hT hx hi hc h
end
end
section
open Go
theorem Qh{P ρ σ e}{a i n':Nat}{t t' r}{cs:List Value}{fz}(hT:∃d,P.underlying t=some d∧Qv d=true)(hz:∃i,P.info? t=some i∧i.size=n')(ha:e a = .pointer (some ⟨r,0,none⟩))(hi:σ[i]?=some (r,.obj (.cells cs.toArray t' fz)))(hn:cs.length=n'):Akh P ρ σ e (.cell a t) (.agg cs.toArray):=by
 intro Q hQ
 rw[ha]
 show wpS P ρ (loadVar t ⟨r,0,none⟩) σ _
 show wpS P ρ ((isAgg t).bind _) σ _
 rw[Ad]
 refine Hi hT ?_
 show wpS P ρ ((sizeOf t).bind fun n=>(loadCells ⟨r,0,none⟩ n).bind _) σ _
 rw[Ad]
 refine Dx hz ?_
 rw[Ad,←hn]
 refine Ff rfl (.inr (lZ8 hi)) cs 0 #[] (fun j w hj=>?_) ?_
 ·simpa[Gy]using hj
 ·have b:(#[]:Array Value)++cs.toArray=cs.toArray:=by simp
  rw[b];exact hQ
theorem Ez{P ρ σ e}{a i n':Nat}{t t' r}{cs:List Value}{fz}(hT:∃d,P.underlying t=some d∧Qv d=true)(hz:∃i,P.info? t=some i∧i.size=n')(ha:e a = .pointer (some ⟨r,0,none⟩))(hi:σ[i]?=some (r,.obj (.cells cs.toArray t' fz)):=by exact rfl)(hn:cs.length=n':=by exact rfl):Akh P ρ σ e (.cell a t) (.agg cs.toArray):=Qh hT hz ha hi hn
theorem Afh{c vs}(h:vs.length=c.length):over c 0 vs=vs:=by
 rw[Qe _ _ _ (by omega)];simp[h]
section
variable{C:Ctx}{e:Env}{ds:List Deferred}{ρ:Ro}{σ:Own}{K:Value→List Deferred→Ro→Own→Prop}{rd:Option Nat}{dd:Option Tmp}
variable{ty:TypeId}{pos:String}{af:Array Edge}{g:Option (Nat×Bool)}{x y:Operand}{v:Value}{t t':TypeId}
theorem Afr{β:Type}{f}{xs:List β}{r i n':Nat}{fz}(hT:∃d,C.P.underlying t=some d∧Qv d=true)(hz:∃i,C.P.info? t=some i∧i.size=n')(hx:Af e x = .pointer (some ⟨r,0,none⟩))(hi:σ[i]?=some (r,.obj (.cells (xs.map f).toArray t' fz)))(hn:xs.length=n')(h:K (.agg (xs.map f).toArray) ds ρ σ):wpS C.P ρ (execOp (Af e) ⟨dd,.load t x,ty,pos,af,g⟩) σ (NextH C K rd ds ρ) :=
 Xo (cs:=xs.map f) (rs:=[]) hT hz hx hi (by simp) (by simpa using hn) h
theorem Acb{β:Type}{f}{xs ys:List β}{r i n'}(hz:∃i,C.P.info? t=some i∧i.size=n')(hx:Af e x = .pointer (some ⟨r,0,none⟩))(hy:Af e y = .agg (ys.map f).toArray)(hs:∀b,single (f b)=true)(hi:σ[i]?=some (r,.obj (.cells (xs.map f).toArray t' (0,0))))(hn:ys.length=n')(hl:xs.length=n')(h:K undef ds ρ (σ.set i (r,.obj (.cells (ys.map f).toArray t' (0,0))))):wpS C.P ρ (execOp (Af e) ⟨dd,.store t x y,ty,pos,af,g⟩) σ (NextH C K rd ds ρ) :=
 Li (vs:=ys.map f) (c:=xs.map f) (c':=ys.map f) hz hx hy rfl (by simpa using hn) (by intro w hw;obtain⟨b,_,rfl⟩:=Sz.1 hw;exact hs b) hi (by simp[hn,hl]) (Afh (by simp[hn,hl])) h
end
end
section
open Go
def Apz:ByteArray:=⟨((List.append (List.append [0,1,2,2,3,3,3,3,4,4,4,4,4,4,4,4,5,5,5,5,5,5,5,5,5,5,5,5,5,5,5,5,6,6,6,6,6,6,6,6,6,6,6,6,6,6,6,6,6,6,6,6,6,6,6,6,6,6,6,6,6,6,6,6] [7,7,7,7,7,7,7,7,7,7,7,7,7,7,7,7,7,7,7,7,7,7,7,7,7,7,7,7,7,7,7,7,7,7,7,7,7,7,7,7,7,7,7,7,7,7,7,7,7,7,7,7,7,7,7,7,7,7,7,7,7,7,7,7]) (List.append [8,8,8,8,8,8,8,8,8,8,8,8,8,8,8,8,8,8,8,8,8,8,8,8,8,8,8,8,8,8,8,8,8,8,8,8,8,8,8,8,8,8,8,8,8,8,8,8,8,8,8,8,8,8,8,8,8,8,8,8,8,8,8,8] [8,8,8,8,8,8,8,8,8,8,8,8,8,8,8,8,8,8,8,8,8,8,8,8,8,8,8,8,8,8,8,8,8,8,8,8,8,8,8,8,8,8,8,8,8,8,8,8,8,8,8,8,8,8,8,8,8,8,8,8,8,8,8,8]))).toArray⟩
/-- The bits of a small number. -/
def Ie(x:Nat):Nat:=if x=0 then 0 else if x<2 then 1 else if x<4 then 2 else if x<8 then 3 else if x<16 then 4 else if x<32 then 5 else if x<64 then 6 else if x<128 then 7 else 8
theorem Aji{x}(h:x<256):Apz[x]?=some (UInt8.ofNat (Ie x)):=by
 have key:(List.range 256).all (fun x=>Apz[x]?==some (UInt8.ofNat (Ie x)))=true:=by decide +kernel
 have:=Tk.1 key x (by simpa using h)
 simpa using this
theorem Sk{x}:Ie x≤8:=by
 unfold Ie;repeat' split
 all_goals omega
theorem Yt{x}:(UInt8.ofNat (Ie x)).toNat=Ie x:=by
 have:=Sk (x:=x)
 simp[UInt8.toNat_ofNat'];omega
section
variable{P:Program}{ρ:Ro}{e:Env}{ty t t':TypeId}{x y:Operand}
theorem Acf{k k' p z d}(hT:P.underlying t=some d)(hT':P.underlying t'=some (.int k'))(hx:Af e x = .int k p)(hz:k'.wrap p=z):Yld P ρ e (.convert t t' x) ty (.int k' z) :=
 Mt (s:=convert t t' (Af e x)) (fun _ _ _ _=>rfl) fun ρ' σ _=>by
  rw[hx]
  show wpS P ρ' ((underlying t).bind _) σ _
  rw[Ad]
  refine Az hT ?_
  show wpS P ρ' ((underlying t').bind _) σ _
  rw[Ad]
  refine Az hT' ?_
  subst hz
  cases d<;>exact⟨rfl,rfl⟩
theorem Ev{p}(h0:0≤p)(h1:p<18446744073709551616):IntKind.u64.wrap p=p:=by
 show p%_=_
 simp only[IntKind.bits]
 omega
theorem Anq{p}(h0:0≤p)(h1:p<256):IntKind.u8.wrap p=p:=by
 show p%_=_
 simp only[IntKind.bits]
 omega
end
end
section
open Go Go.Conc
section
variable{P:Program}{c:Nat}{fr fr':Frame}{cs cs':List Frame}{ρ:Ro}{σ:Own}{vs:List Value}
theorem Fa(h:∀W,stepG P false (Conc.G fr cs) W = .go (Conc.G fr' cs') W #[])(hk:SendI P c vs fr' cs' ρ σ):SendI P c vs fr cs ρ σ :=
 .step (fun a b c=>a=fr'∧b=cs'∧c=σ) (fun W hs=>⟨fr',cs',W,#[],σ,h W,.refl hs,by simp,rfl,rfl,rfl⟩) (by rintro _ _ _ ⟨rfl,rfl,rfl⟩;exact hk)
end
abbrev Aco:=List Value→Hu
section
variable{P:Program}{c:Nat}{b:FB}{n:Nat}{Q:Aco}{vs:List Value}{e:Env}{ds:List Deferred}{ρ ρ':Ro}{σ σ':Own}
end
end
section
open Go Go.Conc
/-- The goroutine's own first frame,when its call has been taken. -/
def Gf(P:Program):Frame:={(default:Frame) with fn:=P.funcs.size,defers:=[],mode:=.panicking [goexitEntry]}
theorem Abf{P f fn args}(hf:P.funcs[f]?=some fn)(hn:(fn.name == "runtime.NumGoroutine")=false)(hb:fn.body.isNone=false)(W:World):
  (invoke (.fn (.func f) #[]) args).runT P W #[]=(.ok (.enter f args) W,#[]):=by
 show (callFunc f (args ++ #[])).runT P W #[]=_
 rw[Apl]
 show (program.bind _:Sem Next).runT P W #[]=_
 rw[Sem.runT_bind']
 show Sem.runT P (match P.funcs[f]? with|none=>_|some fn=>_) W #[]=_
 rw[hf]
 simp only[hn,hb]
 rfl
theorem Abt{P c ρ vs f fn args}(hf:P.funcs[f]?=some fn)(hn:(fn.name == "runtime.NumGoroutine")=false)(hb:fn.body.isNone=false)(h:SendI P c vs (Frame.enter P f args .deferred) [Gf P] ρ []):SendI P c vs (Gg P {target:=.fn (.func f) #[],args:=args}) [] ρ []:=by
 refine Fa (fun W=>?_) h
 have hr:=Abf (args:=args) hf hn hb W
 simp[Conc.G,stepG,Gg,unwind,callDeferred,-Sem.runT_eq,hr,GStep.after,seen,Gf]
/-- What has been deferred: the close. -/
def Lj(c:Nat)(tys:Array TypeId)(ty:TypeId)(cn:Array Bool):Deferred:={target:=.builtin .close tys ty cn,args:=#[.chan (some c)]}
theorem Aeo{P c tys ty cn W s r tm}(h:W.heap[c]?=some (.chan 0 #[] false s r tm)):
  (invoke (.builtin .close tys ty cn) #[.chan (some c)]).runT P W #[]=(.ok (.value (.tuple #[])) (W.setChan c 0 #[] true s r tm),#[⟨.obj c,false,true⟩,⟨.obj c,true,true⟩]):=by
 have b:(Builtin.close_ tys ty #[.chan (some c)]).runT P W #[]=(.ok (.tuple #[]) (W.setChan c 0 #[] true s r tm),#[⟨.obj c,false,true⟩,⟨.obj c,true,true⟩]):=by
  show Sem.runT P (Sem.getObj c fun o=>Sem.bind (Sem.pure o) _) W #[]=_
  rw[Sem.runT]
  simp only[h]
  show Sem.runT P (Sem.setObj c (.chan 0 #[] true s r tm) (Sem.pure (Value.tuple #[]))) W _=_
  rw[Sem.runT]
  simp only[h]
  rfl
 show ((Builtin.close_ tys ty #[.chan (some c)]).bind fun v=>Sem.pure (Next.value v)).runT P W #[]=_
 rw[Sem.runT_bind',b]
 rfl
/-- It leaves a function that yields nothing,and closes what was deferred. -/
theorem Aky{P c b tm todo fn tys ty cn}(hf:P.funcs[b.fn]?=some fn)(hk:b.kind = .deferred)(hr:fn.results = #[]):
  Acm P c {Fr b tm [Lj c tys ty cn] todo with mode:=.returning} [Gf P]:=by
 refine⟨rfl,2,Conc.G {Fr b tm [] todo with mode:=.returning} [Gf P],?_,fun W s r tm' hc=>?_⟩
 ·refine .inr ⟨rfl,Conc.G (Gf P) [],fun w=>?_,.inr ⟨rfl,{Conc.G (Gf P) [] with status:=.finished},fun w=>?_,(rfl:GoStatus.finished=GoStatus.finished)⟩⟩
  ·have hrs:(results fn tm).runT P w #[]=(.ok (.tuple #[]) w,#[]):=by
    unfold results;rw[hr,Bjn];rfl
   simp[Conc.G,stepG,Fr,unwind,hf,-Sem.runT_eq,hrs,doReturn,hk,GStep.after,Gf,goexitEntry,seen]
  ·have hc:Frame.catches P (Gf P)=false:=by
    unfold Frame.catches Gf
    cases P.funcs[P.funcs.size]?<;>rfl
   simp only[Gf,goexitEntry]at hc
   simp[Conc.G,stepG,Gf,unwind,goexitEntry,hc]
 ·have a:=Aeo (P:=P) (tys:=tys) (ty:=ty) (cn:=cn) hc
  simp[Conc.G,stepG,Fr,unwind,Lj,callDeferred,-Sem.runT_eq,a,GStep.after,seen]
section
variable{P:Program}{c:Nat}{b:FB}{n:Nat}{l₀ rest:List Oper}{Q:List Value→Env→List Deferred→Ro→Own→Prop}{vs:List Value}{e:Env}{ds:List Deferred}{ρ:Ro}{σ:Own}
end
section
variable{C:Ctx}{e:Env}{ds:List Deferred}{ρ:Ro}{σ:Own}{K:Value→List Deferred→Ro→Own→Prop}{dd:Option Tmp}
theorem Xn{ty pos af g x tys c t}(hxt:x = .tmp t)(hx:Af e x = .chan (some c))(h:K undef (Lj c tys ty #[false]::ds) ρ σ):
  wpS C.P ρ (execOp (Af e) ⟨dd,.defer ⟨.builtin .close,#[x],tys⟩,ty,pos,af,g⟩) σ (NextH C K none ds ρ):=by
 subst hxt
 have a:execOp (Af e) ⟨dd,.defer ⟨.builtin .close,#[.tmp t],tys⟩,ty,pos,af,g⟩=Sem.pure (Next.defer {target:=.builtin .close tys ty #[false],args:=#[Af e (.tmp t)]}):=by
  show ((resolve (Af e) ⟨.builtin .close,#[.tmp t],tys⟩ ty).bind fun d=>Sem.pure (Next.defer d))=_
  simp[resolve,Sem.bind,pure]
 rw[a,hx]
 exact⟨rfl,h⟩
end
end
section
open Go Go.Conc
def Agk:Nat→List (List Bool)
 | 0=>[[]]
 | k+1=>(Agk k).flatMap fun l=>[true::l,false::l]
theorem Yu:∀(l:List Bool),l∈Agk l.length
 | []=>by simp[Agk]
 | b::l=>by
  rw[lZ3,Agk,List.mem_flatMap]
  exact⟨l,Yu l,by cases b<;>simp⟩
def Mh(ops:List Oper)(l:List Bool):Bool:=(List.range ops.length).all fun i=>!l.getD i false||(match ops[i]? with|some o=>o.after.all (fun e=>!Region.binds .any e||l.getD e.on false)|none=>true)
/-- The last one comes when all others have come. -/
def Amp(ops' ops:List Oper):Bool:=(Agk ops'.length).all fun l=>!Mh ops' l||(decide (Dl ops (l++[false])=if Dl ops' l=[] then [ops'.length] else Dl ops' l)&&(decide (Dl ops' l≠[])||decide (Dl ops (l++[true])=[]))&&(Dl ops' l).all fun i=>Mh ops' (l.set i true))
def Adh(l:List Oper):Bool:=l.all fun o=>o.guard.isNone
section
variable{C:Ctx}{b:FB}{n:Nat}{l':List Oper}{oL:Oper}{Q Q':Env→List Deferred→Ro→Own→Prop}{pz:List Nat}{S:Ro→Own→Prop}
theorem Aap(hs:Fu n (l'++[oL]).toArray=true)(hk:b.kind ≠ .early)(hg:Adh l'=true)(hc:Amp l' (l'++[oL])=true)(hQ:∀e ds ρ σ,Q' e ds ρ σ→Lq C b n (l'++[oL]).toArray [l'.length] Q e ds ρ σ) :
  ∀(fuel t:Nat) (l:List Bool) (e:Env) (ds:List Deferred) (ρ:Ro) (σ:Own),l.length=l'.length→Mh l' l=true→El C b l'.toArray Q' pz S fuel l.toArray e ds ρ σ →
  Lq C b n (l'++[oL]).toArray (Region.linearise.go .any (l'++[oL]).toArray (fuel+1) t (l++[false]).toArray []) Q e ds ρ σ:=by
 have f:∀l:List Bool,l.length=l'.length→Mh l' l=true→Dl (l'++[oL]) (l++[false])=(if Dl l' l=[] then [l'.length] else Dl l' l)∧(Dl l' l=[]→Dl (l'++[oL]) (l++[true])=[])∧∀i∈Dl l' l,Mh l' (l.set i true)=true:=fun l hl hcl=>by
  have a:=Tk.1 hc l (hl ▸ Yu l)
  rw[hcl]at a
  simp only[Bool.not_true,Bool.false_or,Tj,Bch,decide_eq_true_eq,Tk]at a
  exact⟨a.1.1,fun h=>a.1.2.resolve_left fun h'=>h' h,a.2⟩
 have rd:∀(l:List Oper) (li:List Bool),Region.ready .any l.toArray li.toArray=Dl l li:=Hh
 have fin:∀(fuel t:Nat) (l:List Bool) (e:Env) (ds:List Deferred) (ρ:Ro) (σ:Own),l.length=l'.length→Mh l' l=true→Dl l' l=[]→Q' e ds ρ σ →
   Lq C b n (l'++[oL]).toArray (Region.linearise.go .any (l'++[oL]).toArray (fuel+1) t (l++[false]).toArray []) Q e ds ρ σ:=by
  intro fuel t l e ds ρ σ hl hcl hr hq
  obtain⟨a,d,_⟩:=f l hl hcl
  rw[if_pos hr]at a
  have g:Region.linearise.go .any (l'++[oL]).toArray (fuel+1) t (l++[false]).toArray []=[l'.length]:=by
   simp only[Region.linearise.go]
   change (match (Region.ready .any (l'++[oL]).toArray (l++[false]).toArray)[t%(Region.ready .any (l'++[oL]).toArray (l++[false]).toArray).length]? with
    | some i=>Region.linearise.go .any (l'++[oL]).toArray fuel (t/(Region.ready .any (l'++[oL]).toArray (l++[false]).toArray).length) ((l++[false]).toArray.setIfInBounds i true) [i]
    | none=>[].reverse)=_
   rw[rd,a]
   simp only[Atl,Nat.mod_one,Agl]
   rw[linearise_go_acc]
   have j:(l++[false]).toArray.setIfInBounds l'.length true=(l++[true]).toArray:=by
    rw[←hl];simp
   rw[j]
   cases fuel with
   | zero=>simp[Region.linearise.go]
   | succ fuel =>
    simp only[Region.linearise.go]
    have m:Region.ready .any (l'++[oL]).toArray (l++[true]).toArray=[]:=(rd _ _).trans (d hr)
    change [l'.length].reverse++(match (Region.ready .any (l'++[oL]).toArray (l++[true]).toArray)[(t/1)%(Region.ready .any (l'++[oL]).toArray (l++[true]).toArray).length]? with
     | some i=>Region.linearise.go .any (l'++[oL]).toArray fuel ((t/1)/(Region.ready .any (l'++[oL]).toArray (l++[true]).toArray).length) ((l++[true]).toArray.setIfInBounds i true) [i]
     | none=>[].reverse)=_
    rw[m];rfl
  rw[g];exact hQ _ _ _ _ hq
 intro fuel
 induction fuel with
 | zero =>
  intro t l e ds ρ σ hl hcl h
  exact fin 0 t l e ds ρ σ hl hcl ((rd _ _).symm.trans h.1) h.2
 | succ fuel ih =>
  intro t l e ds ρ σ hl hcl h
  rcases h with h|⟨ρ₁,σ₁,hgh,_,h₀,h₁⟩
  ·exact fun tm k cs ht=>Rc h
  refine fun tm k cs ht=>.ghost hgh ?_
  revert tm k cs
  change Lq C b n (l'++[oL]).toArray (Region.linearise.go .any (l'++[oL]).toArray (fuel+1+1) t (l++[false]).toArray []) Q e ds ρ₁ σ₁
  by_cases hr:Dl l' l=[]
  ·exact fin (fuel+1) t l e ds ρ₁ σ₁ hl hcl hr (h₀ ((rd _ _).trans hr))
  obtain⟨a,d,u⟩:=f l hl hcl
  rw[if_neg hr]at a
  rw[Region.linearise.go]
  change Lq C b n (l'++[oL]).toArray (match (Region.ready .any (l'++[oL]).toArray (l++[false]).toArray)[t%(Region.ready .any (l'++[oL]).toArray (l++[false]).toArray).length]? with
   | some i=>Region.linearise.go .any (l'++[oL]).toArray (fuel+1) (t/(Region.ready .any (l'++[oL]).toArray (l++[false]).toArray).length) ((l++[false]).toArray.setIfInBounds i true) [i]
   | none=>[].reverse) Q e ds ρ₁ σ₁
  rw[rd,a]
  have w:0<(Dl l' l).length:=Bja.2 hr
  have hlt:t%(Dl l' l).length<(Dl l' l).length:=Nat.mod_lt _ w
  rw[Sr hlt]
  simp only[]
  have hi:(Dl l' l)[t%(Dl l' l).length]∈Dl l' l:=Bce hlt
  generalize (Dl l' l)[t%(Dl l' l).length]=i at hi
  have hi':i<l'.length:=by
   have:=(List.mem_filter.1 (show i∈(List.range l'.length).filter _ from hi)).1
   simpa using this
  rw[linearise_go_acc,List.reverse_singleton,List.singleton_append]
  have c:=h₁ i (by rw[rd];exact hi)
  have p:(l++[false]).toArray.setIfInBounds i true=(l.set i true++[false]).toArray:=by
   simp[List.set_append_left _ _ (hl ▸ hi')]
  have q:l.toArray.setIfInBounds i true=(l.set i true).toArray:=by simp
  rw[p]
  refine Uc hs hk ?_
  have ho:l'[i]?=some l'[i]:=Sr hi'
  have x:(l'++[oL])[i]?=some l'[i]:=by rw[Alt hi',ho]
  have hgn:(l'[i]).guard=none:=by
   have:=Tk.1 hg _ (Bce hi')
   simpa using this
  unfold OpH at c ⊢
  simp only[Qx,ho,x]at c ⊢
  have y:Bz l'.toArray l'[i] e=true:=by unfold Bz;rw[hgn]
  have z:Bz (l'++[oL]).toArray l'[i] e=true:=by unfold Bz;rw[hgn]
  rw[if_pos y]at c
  rw[if_pos z]
  refine Eu (fun nx σ' hn=>hn.mono fun v ds ρ σ hh=>?_) _ _ c
  refine ih _ _ _ _ _ _ (by simpa using hl) (u i hi) ?_
  rw[←q];exact hh.2
end
end
section
open Go
inductive Tr(α:Type) where
 | leaf
 | node (v:Option α) (l r:Tr α)
noncomputable def Tr.get{α:Type}(t:Tr α):Nat→Option α:=Tr.rec (motive:=fun _=>Nat→Option α) (fun _=>none)
 (fun v _ _ gl gr k=>Bool.rec (Bool.rec (gl (Nat.div k 2)) (gr (Nat.sub (Nat.div k 2) 1)) (Nat.beq (Nat.mod k 2) 0)) v (Nat.beq k 0)) t
noncomputable def Tr.put{α:Type}(n:Nat):Tr α→Nat→α→Tr α:=Nat.rec (motive:=fun _=>Tr α→Nat→α→Tr α) (fun t _ _=>t)
 (fun _ ih t k a=>Tr.rec (motive:=fun _=>Tr α)
  (Bool.rec (Bool.rec (.node none (ih .leaf (Nat.div k 2) a) .leaf) (.node none .leaf (ih .leaf (Nat.sub (Nat.div k 2) 1) a)) (Nat.beq (Nat.mod k 2) 0)) (.node (some a) .leaf .leaf) (Nat.beq k 0))
  (fun v l r _ _=>Bool.rec (Bool.rec (.node v (ih l (Nat.div k 2) a) r) (.node v l (ih r (Nat.sub (Nat.div k 2) 1) a)) (Nat.beq (Nat.mod k 2) 0)) (.node (some a) l r) (Nat.beq k 0)) t) n
noncomputable def Tr.set{α:Type}(t:Tr α)(k:Nat)(a:α):Tr α:=Tr.put (Nat.succ k) t k a
inductive CV where
 | bad
 | b (x:Bool)
 | i (k:IntKind) (n:Int)
 | s (x:List UInt8)
 | pn
 | p (k off:Nat)
 | sn
 | sl (k off ln:Nat) (kn:Bool) (c:Nat)
 | mn
 | m (k:Nat)
 | cn
 | c (k:Nat)
 | fn
 | f (g:Nat) (xs ys:List CV)
 | y (k:Nat)
 | n
 | a (t:Nat) (v:CV)
 | g (l:List CV)
 | t (l:List CV)
deriving Inhabited
def CV.undef:CV:=.t []
/-- The cells of a value. -/
noncomputable def CV.cells:CV→Option (List CV)
 | .g l=>some l
 | .bad=>none
 | v=>some [v]
noncomputable def CV.isCell:CV→Bool
 | .g _=>false
 | .t _=>false
 | .bad=>false
 | _=>true
noncomputable def xAllC(l:List CV):Bool:=List.rec (motive:=fun _=>Bool) true (fun a _ ih=>match a.isCell with|true=>ih|false=>false) l
/-- The value of a constant. -/
noncomputable def xOf0:Value→CV
 | .bool x=>.b x
 | .int k n=>.i k n
 | .string x=>.s x.data.toList
 | .pointer none=>.pn
 | .slice none 0 0=>.sn
 | .map none=>.mn
 | .chan none=>.cn
 | .nilFunc=>.fn
 | .nilIface=>.n
 | .func (.func g) xs ys=>match xs.toList,ys.toList with
  | [],[]=>.f g [] []
  | _,_=>.bad
 | _=>.bad
noncomputable def xOf1:Value→CV
 | .iface t v=>.a t (xOf0 v)
 | v=>xOf0 v
noncomputable def xOfV:Value→CV
 | .agg l=>.g (l.toList.map xOf1)
 | .tuple l=>.t (l.toList.map xOf1)
 | v=>xOf1 v
noncomputable def xDrp{α:Type}(n:Nat):List α→List α:=Nat.rec (motive:=fun _=>List α→List α) (fun l=>l) (fun _ ih l=>List.rec (motive:=fun _=>List α) [] (fun _ l _=>ih l) l) n
/-- The first n,if there are so many. -/
noncomputable def xTkn{α:Type}(n:Nat):List α→Option (List α):=Nat.rec (motive:=fun _=>List α→Option (List α)) (fun _=>some [])
 (fun _ ih l=>List.rec (motive:=fun _=>Option (List α)) none (fun a l _=>match ih l with|some r=>some (a::r)|none=>none) l) n
noncomputable def xNth{α:Type}(n:Nat):List α→Option α:=Nat.rec (motive:=fun _=>List α→Option α) (fun l=>List.rec (motive:=fun _=>Option α) none (fun a _ _=>some a) l)
 (fun _ ih l=>List.rec (motive:=fun _=>Option α) none (fun _ l _=>ih l) l) n
noncomputable def xApp{α:Type}(x y:List α):List α:=List.rec (motive:=fun _=>List α) y (fun a _ ih=>a::ih) x
noncomputable def xLen{α:Type}(x:List α):Nat:=List.rec (motive:=fun _=>Nat) 0 (fun _ _ ih=>Nat.succ ih) x
/-- vs in place of what stands at n and behind it. -/
noncomputable def xOver(vs:List CV):List CV→Option (List CV):=List.rec (motive:=fun _=>List CV→Option (List CV)) (fun l=>some l)
 (fun v _ ih l=>List.rec (motive:=fun _=>Option (List CV)) none (fun _ l _=>match ih l with|some r=>some (v::r)|none=>none) l) vs
noncomputable def xSetL(n:Nat)(vs:List CV):List CV→Option (List CV):=Nat.rec (motive:=fun _=>List CV→Option (List CV)) (fun l=>xOver vs l)
 (fun _ ih l=>List.rec (motive:=fun _=>Option (List CV)) none (fun a l _=>match ih l with|some r=>some (a::r)|none=>none) l) n
inductive CO where
 | cells (l:List CV)
 | grow (n:Nat) (l:List CV)
 | map (es:List (CV×CV))
 | loop (busy:Nat) (pend:Option Code) (n:Nat) (env:Tr CV) (ps:List Tmp) (as_ body:Code) (dk:Nat)
 | defd
 | chan
 | dead
 | rcv (vs:List CV)
inductive Cell where
 | own (o:CO)
 | ro (o:CO)
structure Mem where
 M:Tr Cell
 nx:Nat
 log:List Nat
 ln:Nat
 outs:List CV
inductive CD where
 | mark (k:Nat)
 | close (k:Nat)
structure St where
 e:Tr CV
 m:Mem
 ds:List CD
noncomputable def Mem.obj(m:Mem)(k:Nat):Option CO:=match m.M.get k with|some (.own o)=>some o|some (.ro o)=>some o|none=>none
noncomputable def xRowO:CO→Option (List CV)
 | .cells l=>some l
 | .grow _ l=>some l
 | _=>none
noncomputable def Mem.row(m:Mem)(k:Nat):Option (List CV):=match m.M.get k with
 | some (.own o)=>xRowO o
 | some (.ro o)=>xRowO o
 | none=>none
noncomputable def Mem.add(m:Mem)(o:CO):Mem:=⟨m.M.set m.nx (.own o),Nat.succ m.nx,m.log,m.ln,m.outs⟩
noncomputable def Mem.put(m:Mem)(k:Nat)(o:CO):Mem:=⟨m.M.set k (.own o),m.nx,k::m.log,Nat.succ m.ln,m.outs⟩
noncomputable def Mem.store(m:Mem)(k off:Nat)(vs:List CV):Option Mem:=match xAllC vs with
 | false=>none
 | true=>match m.M.get k with
  | some (.own (.cells l))=>match xSetL off vs l with|some r=>some (m.put k (.cells r))|none=>none
  | some (.own (.grow n l))=>match xSetL off vs l with|some r=>some (m.put k (.grow n r))|none=>none
  | _=>none
noncomputable def Mem.read(m:Mem)(k off n:Nat):Option (List CV):=match m.row k with
 | some l=>xTkn n (xDrp off l)
 | none=>none
inductive OR where
 | v (x:CV) (m:Mem)
 | rd (x:CV) (k:Nat)
 | enter (f:FuncId) (args:List CV)
 | round (k:Nat) (args:List CV)
 | go (f:CV) (args:List CV)
 | recv (k:Nat) (ok:Bool)
 | send (k:Nat) (x:CV)
 | dclose (x:CV)
 | bad
structure K1 where
 run:Tr CV→CV
structure KL where
 run:Tr CV→List CV
structure KO where
 run:Tr CV→Mem→OR
noncomputable def rdK:Operand→K1
 | .tmp t=>⟨fun e=>match e.get t with|some v=>v|none=>.bad⟩
 | .const v=>⟨fun _=>xOfV v⟩
 | .global g=>match Nat.ble (Nat.succ g) 16 with|true=>⟨fun _=>.p g 0⟩|false=>⟨fun _=>.bad⟩
 | .func f=>⟨fun _=>.f f [] []⟩
noncomputable def rdsK:List Operand→KL
 | []=>⟨fun _=>[]⟩
 | x::l=>match rdK x,rdsK l with|⟨f⟩,⟨g⟩=>⟨fun e=>f e::g e⟩
noncomputable def xEqS(x:List UInt8):List UInt8→Bool:=List.rec (motive:=fun _=>List UInt8→Bool) (fun y=>List.rec (motive:=fun _=>Bool) true (fun _ _ _=>false) y)
 (fun a _ ih y=>List.rec (motive:=fun _=>Bool) false (fun b y _=>Bool.rec false (ih y) (Nat.beq a.toNat b.toNat)) y) x
noncomputable def xEqI:Int→Int→Bool
 | .ofNat x,.ofNat y=>Nat.beq x y
 | .negSucc x,.negSucc y=>Nat.beq x y
 | _,_=>false
noncomputable def xLtI:Int→Int→Bool
 | .ofNat x,.ofNat y=>Nat.ble (Nat.succ x) y
 | .negSucc x,.negSucc y=>Nat.ble (Nat.succ y) x
 | .negSucc _,.ofNat _=>true
 | .ofNat _,.negSucc _=>false
noncomputable def xEqP:CV→CV→Option Bool
 | .b x,.b y=>some (x==y)
 | .i _ x,.i _ y=>some (xEqI x y)
 | .s x,.s y=>some (xEqS x y)
 | _,_=>none
noncomputable def xRepL(z:List CV)(n:Nat):List CV:=Nat.rec (motive:=fun _=>List CV) [] (fun _ ih=>xApp z ih) n
noncomputable def xBytesC(l:List UInt8):List CV:=List.rec (motive:=fun _=>List CV) [] (fun b _ ih=>.i .u8 (.ofNat b.toNat)::ih) l
noncomputable def xVOf(m:Mem):Option CV→OR
 | some x=>.v x m
 | none=>.bad
noncomputable def xAggT(P:Program)(t:TypeId):Option Bool:=match P.underlying t with
 | some d=>some (Qv d)
 | none=>none
noncomputable def xSzT(P:Program)(t:TypeId):Option Nat:=match P.info? t with|some i=>some i.size|none=>none
noncomputable def xZeroT(P:Program)(t:TypeId):Option CV:=match P.info? t with
 | some i=>match i.zero with|some v=>some (xOfV v)|none=>none
 | none=>none
/-- How many cells the zero value has. -/
noncomputable def xZeroC(P:Program)(t:TypeId):Option Nat:=match P.info? t with
 | some i=>match i.zero with|some v=>some v.cells.size|none=>none
 | none=>none
structure LK where
 run:List CV→Option CV
/-- A part that begins a row,as a value of a type. -/
noncomputable def partK(P:Program)(t:TypeId):LK:=match xAggT P t with
 | some true=>match xSzT P t with
  | some n=>⟨fun l=>match xTkn n l with|some r=>some (.g r)|none=>none⟩
  | none=>⟨fun _=>none⟩
 | some false=>⟨fun l=>match l with|v::_=>some v|[]=>none⟩
 | none=>⟨fun _=>none⟩
structure FK where
 run:List CV→Tr CV→Option (List CV)
/-- Parts,each with the size that is asked,over cells. -/
noncomputable def fillK(off:Nat→Option (Nat×Nat)):List (Nat×Operand)→FK
 | []=>⟨fun l _=>some l⟩
 | (i,x)::r=>match off i with
  | none=>⟨fun _ _=>none⟩
  | some (o,z)=>⟨fun l e=>match ((rdK x).run e).cells with
   | none=>none
   | some c=>match Nat.beq (xLen c) z with
    | false=>none
    | true=>match xSetL o c l with
     | some l=>(fillK off r).run l e
     | none=>none⟩
noncomputable def fldAt(P:Program)(fs:List Field)(i:Nat):Option (Nat×Nat):=match fs[i]? with
 | some f=>match xSzT P f.type with|some n=>some (f.offset,n)|none=>none
 | none=>none
noncomputable def allSz(P:Program):List Field→Bool
 | []=>true
 | f::fs=>match xSzT P f.type with|some _=>allSz P fs|none=>false
/-- A struct of numbers alone,cell by cell: their kinds. -/
noncomputable def flatK(P:Program):Nat→List Field→Option (List IntKind)
 | _,[]=>some []
 | n,f::fs=>match f.name == "_",Nat.beq f.offset n,P.underlying f.type,flatK P (Nat.succ n) fs with
  | false,true,some (.int k),some l=>some (k::l)
  | _,_,_,_=>none
noncomputable def flatT(P:Program)(t:TypeId):Option (List IntKind):=match P.stoodInHeld t,P.eqGuardType P.depth t,P.underlying t with
 | false,false,some (.struct fs)=>flatK P 0 fs.toList
 | _,_,_=>none
noncomputable def xKind:IntKind→IntKind→Bool
 | .i8,.i8 | .i16,.i16 | .i32,.i32 | .i64,.i64 | .u8,.u8 | .u16,.u16 | .u32,.u32 | .u64,.u64=>true
 | _,_=>false
noncomputable def eqF0:List CV→List CV→Option Bool
 | [],[]=>some true
 | _,_=>none
noncomputable def eqF1(k:IntKind)(ih:List CV→List CV→Option Bool):List CV→List CV→Option Bool
 | .i k1 a::x,.i k2 b::y=>match xKind k k1,xKind k k2 with
  | true,true=>match ih x y with|some r=>some (match xEqI a b with|true=>r|false=>false)|none=>none
  | _,_=>none
 | _,_=>none
noncomputable def eqF(ks:List IntKind):List CV→List CV→Option Bool:=List.rec (motive:=fun _=>List CV→List CV→Option Bool) eqF0 (fun k _ ih=>eqF1 k ih) ks
structure BK where
 run:List CV→Mem→OR
/-- n: the cells of an element. -/
noncomputable def appendK(n:Nat):BK:=⟨fun args m=>match args with
 | [s,.sl k2 off2 lx _ _]=>match m.read k2 off2 (Nat.mul lx n) with
  | none=>.bad
  | some cx=>match Nat.beq lx 0,xAllC cx with
   | false,true=>match s with
    | .sn=>match Nat.ble lx 1000000 with|true=>.v (.sl m.nx 0 lx false 0) (m.add (.grow n cx))|false=>.bad
    | .sl k off ls false c=>match m.M.get k with
      | some (.own (.grow n' l))=>match Nat.beq n n',Nat.beq off 0,Nat.beq c 0,Nat.beq (xLen l) (Nat.mul ls n),Nat.ble (Nat.add ls lx) 1000000 with
       | true,true,true,true,true=>.v (.sl m.nx 0 (Nat.add ls lx) false 0) ((m.put k .dead).add (.grow n (xApp l cx)))
       | _,_,_,_,_=>.bad
      | _=>.bad
    | _=>.bad
   | _,_=>.bad
 | _=>.bad⟩
noncomputable def builtinK(P:Program)(b:Builtin)(ts:List TypeId):BK :=
 match b with
 | .len=>match ts with
  | [t]=>match P.underlying t with
   | some (.slice _)=>⟨fun args m=>match args with
    | [.sn]=>.v (.i .i64 0) m
    | [.sl _ _ n _ _]=>.v (.i .i64 (.ofNat n)) m
    | _=>.bad⟩
   | some .string=>⟨fun args m=>match args with|[.s x]=>.v (.i .i64 (.ofNat (xLen x))) m|_=>.bad⟩
   | _=>⟨fun _ _=>.bad⟩
  | _=>⟨fun _ _=>.bad⟩
 | .min=>⟨fun args m=>match args with
  | [.i k x,.i k' y]=>match xKind k k' with|true=>.v (.i k (match xLtI y x with|true=>y|false=>x)) m|false=>.bad
  | _=>.bad⟩
 | .max=>⟨fun args m=>match args with
  | [.i k x,.i k' y]=>match xKind k k' with|true=>.v (.i k (match xLtI x y with|true=>y|false=>x)) m|false=>.bad
  | _=>.bad⟩
 | .append=>match ts with
  | [t,u]=>match P.underlying t,P.underlying u with
   | some (.slice el),some (.slice _)=>match P.info? el,xZeroC P el with
    | some i,some z=>match Nat.ble 1 i.size,Nat.ble i.bytes 4096,Nat.beq z i.size with|true,true,true=>appendK i.size|_,_,_=>⟨fun _ _=>.bad⟩
    | _,_=>⟨fun _ _=>.bad⟩
   | _,_=>⟨fun _ _=>.bad⟩
  | _=>⟨fun _ _=>.bad⟩
 | _=>⟨fun _ _=>.bad⟩
/-- A function's code and results. -/
noncomputable def xHasBody(P:Program)(g:Nat):Bool:=match P.funcs[g]? with
 | some fn=>match fn.name == "runtime.NumGoroutine" with|true=>false|false=>fn.body.isSome
 | none=>false
noncomputable def callK(P:Program):CV→List CV→OR
 | .f g xs ys,args=>match xHasBody P g with
  | true=>.enter g (xApp xs (xApp args ys))
  | false=>.bad
 | .y k,args=>.round k args
 | _,_=>.bad
noncomputable def xBadK:KO:=⟨fun _ _=>.bad⟩
/-- An operation on two numbers of one kind,or a comparison. -/
noncomputable def binN(op:BinOp)(k:IntKind)(a b:Int):Option CV :=
 match op with
 | .add=>some (.i k (k.wrap (a+b)))
 | .sub=>some (.i k (k.wrap (a-b)))
 | .mul=>some (.i k (k.wrap (a*b)))
 | .and=>some (.i k (k.wrap (BitVec.ofInt k.bits a &&& BitVec.ofInt k.bits b).toNat))
 | .or=>some (.i k (k.wrap (BitVec.ofInt k.bits a ||| BitVec.ofInt k.bits b).toNat))
 | .andNot=>some (.i k (k.wrap (BitVec.ofInt k.bits a &&& ~~~(BitVec.ofInt k.bits b)).toNat))
 | .eql=>some (.b (xEqI a b))
 | .neq=>some (.b (!xEqI a b))
 | .lss=>some (.b (xLtI a b))
 | .leq=>some (.b (!xLtI b a))
 | .gtr=>some (.b (xLtI b a))
 | .geq=>some (.b (!xLtI a b))
 | _=>none
structure K3 where
 run:IntKind→Int→Int→Option CV
/-- binN at one operation. -/
noncomputable def binKN:BinOp→K3
 | .add=>⟨binN .add⟩
 | .sub=>⟨binN .sub⟩
 | .mul=>⟨binN .mul⟩
 | .and=>⟨binN .and⟩
 | .or=>⟨binN .or⟩
 | .andNot=>⟨binN .andNot⟩
 | .eql=>⟨binN .eql⟩
 | .neq=>⟨binN .neq⟩
 | .lss=>⟨binN .lss⟩
 | .leq=>⟨binN .leq⟩
 | .gtr=>⟨binN .gtr⟩
 | .geq=>⟨binN .geq⟩
 | _=>⟨fun _ _ _=>none⟩
/-- What a key of a map may be. -/
inductive MK where
 | str
 | flat (ks:List IntKind)
noncomputable def mapKind(P:Program)(kt:TypeId):Option MK:=match P.underlying kt with
 | some .string=>some .str
 | some (.struct _)=>match flatT P kt with|some ks=>some (.flat ks)|none=>none
 | _=>none
noncomputable def eqM:MK→CV→CV→Option Bool
 | .str,.s a,.s b=>some (xEqS a b)
 | .flat ks,.g a,.g b=>eqF ks a b
 | _,_,_=>none
noncomputable def keyOk:MK→CV→Bool
 | .str,.s _=>true
 | .flat ks,.g a=>(eqF ks a a).isSome
 | _,_=>false
/-- The first entry with this key. -/
noncomputable def findX(mk:MK)(k:CV)(l:List (CV×CV)):Option (Option CV):=List.rec (motive:=fun _=>Option (Option CV)) (some none)
 (fun e _ ih=>match e with|(a,v)=>match eqM mk k a with|some true=>some (some v)|some false=>ih|none=>none) l
noncomputable def putX(mk:MK)(k v:CV)(l:List (CV×CV)):Option (List (CV×CV)):=List.rec (motive:=fun _=>Option (List (CV×CV))) (some [(k,v)])
 (fun e l ih=>match e with|(a,w)=>match eqM mk k a with
  | some true=>some ((k,v)::l)
  | some false=>match ih with|some r=>some ((a,w)::r)|none=>none
  | none=>none) l
noncomputable def opK(P:Program):Op→KO
 | .move x=>⟨fun e m=>.v ((rdK x).run e) m⟩
 | .assign x=>⟨fun e m=>.v ((rdK x).run e) m⟩
 | .pick c a b=>⟨fun e m=>match (rdK c).run e with | .b true=>.v ((rdK a).run e) m | .b false=>.v ((rdK b).run e) m|_=>.bad⟩
 | .alloc t=>match xZeroT P t with
  | some z=>match z.cells with|some c=>⟨fun _ m=>.v (.p m.nx 0) (m.add (.cells c))⟩|none=>xBadK
  | none=>xBadK
 | .box _ x=>⟨fun e m=>match ((rdK x).run e).cells with|some c=>.v (.p m.nx 0) (m.add (.cells c))|none=>.bad⟩
 | .build t ps=>match xZeroT P t,P.underlying t with
  | some z,some (.struct fs)=>match allSz P fs.toList,z.cells with
   | true,some c=>⟨fun e m=>match (fillK (fldAt P fs.toList) ps.toList).run c e with|some l=>.v (.g l) m|none=>.bad⟩
   | _,_=>xBadK
  | some z,some (.array _ el)=>match xSzT P el,z.cells with
   | some n,some c=>⟨fun e m=>match (fillK (fun i=>some (Nat.mul i n,n)) ps.toList).run c e with|some l=>.v (.g l) m|none=>.bad⟩
   | _,_=>xBadK
  | _,_=>xBadK
 | .buildSlice t ln ps=>match P.underlying t with
  | some (.slice el)=>match xSzT P el,xZeroT P el,xZeroC P el with
   | some n,some z,some zc=>match z.cells,Nat.ble (Nat.mul ln n) 1000000,Nat.ble 1 (Nat.mul ln n),Nat.beq zc n with
    | some c,true,true,true=>⟨fun e m=>match (fillK (fun i=>some (Nat.mul i n,n)) ps.toList).run (xRepL c ln) e with
     | some l=>.v (.sl m.nx 0 ln true ln) (m.add (.cells l))
     | none=>.bad⟩
    | _,_,_,_=>xBadK
   | _,_,_=>xBadK
  | _=>xBadK
 | .load t a=>⟨fun e m=>match (rdK a).run e with
   | .p k off=>match m.row k with
    | some l=>match (partK P t).run (xDrp off l) with|some v=>.rd v k|none=>.bad
    | none=>.bad
   | _=>.bad⟩
 | .store t a v=>match xSzT P t with
  | some n=>⟨fun e m=>match (rdK a).run e with
   | .p k off=>match ((rdK v).run e).cells with
    | some c=>match Nat.beq (xLen c) n with
     | true=>match m.store k off c with|some m=>.v .undef m|none=>.bad
     | false=>.bad
    | none=>.bad
   | _=>.bad⟩
  | none=>xBadK
 | .nilCheck x=>⟨fun e m=>match (rdK x).run e with
   | .p k off=>.v (.p k off) m
   | _=>.bad⟩
 | .binOp op t x y _=>match flatT P t with
  | none=>match op with
   | .shl=>⟨fun e m=>match (rdK x).run e,(rdK y).run e with | .i k a,.i _ (.ofNat n)=>.v (.i k (k.wrap (a*2^(min n k.bits)))) m|_,_=>.bad⟩
   | .shr=>⟨fun e m=>match (rdK x).run e,(rdK y).run e with | .i k a,.i _ (.ofNat n)=>.v (.i k (a.fdiv (2^(min n k.bits)))) m|_,_=>.bad⟩
   | op=>⟨fun e m=>match (rdK x).run e,(rdK y).run e with
    | .i k a,.i k' b=>match xKind k k' with
     | true=>match (binKN op).run k a b with|some v=>.v v m|none=>.bad
     | false=>.bad
    | _,_=>.bad⟩
  | some ks=>match op with
   | .eql=>⟨fun e m=>match (rdK x).run e,(rdK y).run e with | .g a,.g b=>(match eqF ks a b with|some r=>.v (.b r) m|none=>.bad)|_,_=>.bad⟩
   | .neq=>⟨fun e m=>match (rdK x).run e,(rdK y).run e with | .g a,.g b=>(match eqF ks a b with|some r=>.v (.b !r) m|none=>.bad)|_,_=>.bad⟩
   | _=>xBadK
 | .unOp .not _ x=>⟨fun e m=>match (rdK x).run e with | .b v=>.v (.b !v) m|_=>.bad⟩
 | .convert s d x=>match P.underlying s,P.underlying d with
  | some (.int _),some (.int k)=>⟨fun e m=>match (rdK x).run e with | .i _ v=>.v (.i k (k.wrap v)) m|_=>.bad⟩
  | some .string,some (.slice el)=>match P.underlying el with
   | some (.int .u8)=>⟨fun e m=>match (rdK x).run e with
    | .s v=>.v (.sl m.nx 0 (xLen v) false 0) (m.add (.grow 1 (xBytesC v)))
    | _=>.bad⟩
   | _=>xBadK
  | _,_=>xBadK
 | .makeFunc (.func g) xs ys=>⟨fun e m=>.v (.f g ((rdsK xs.toList).run e) ((rdsK ys.toList).run e)) m⟩
 | .makeMap _ none=>⟨fun _ m=>.v (.m m.nx) (m.add (.map []))⟩
 | .makeChan t s=>match P.underlying t with
  | some (.chan _ el)=>match P.info? el with
   | some _=>⟨fun e m=>match (rdK s).run e with | .i _ (.ofNat 0)=>.v (.c m.nx) (m.add .chan)|_=>.bad⟩
   | none=>xBadK
  | _=>xBadK
 | .fieldAddr t x i=>match P.underlying t with
  | some (.struct fs)=>match fldAt P fs.toList i with
   | some (o,n)=>match Nat.ble 1 n with
    | true=>⟨fun e m=>match (rdK x).run e with | .p k off=>.v (.p k (Nat.add off o)) m|_=>.bad⟩
    | false=>xBadK
   | none=>xBadK
  | _=>xBadK
 | .indexAddr t x y=>match P.underlying t with
  | some (.slice el)=>match xSzT P el with
   | some n=>⟨fun e m=>match (rdK x).run e,(rdK y).run e with
    | .sl k off ln _ _,.i _ (.ofNat i)=>match Nat.ble (Nat.succ i) ln with|true=>.v (.p k (Nat.add off (Nat.mul i n))) m|false=>.bad
    | _,_=>.bad⟩
   | none=>xBadK
  | some (.array ln el)=>match xSzT P el with
   | some n=>⟨fun e m=>match (rdK x).run e,(rdK y).run e with
    | .p k off,.i _ (.ofNat i)=>match Nat.ble (Nat.succ i) ln with|true=>.v (.p k (Nat.add off (Nat.mul i n))) m|false=>.bad
    | _,_=>.bad⟩
   | none=>xBadK
  | _=>xBadK
 | .index t x y=>match P.underlying t with
  | some (.array ln el)=>match xSzT P el,xAggT P el with
   | some n,some false=>⟨fun e m=>match (rdK x).run e,(rdK y).run e with
    | .g l,.i _ (.ofNat i)=>match Nat.ble (Nat.succ i) ln,xNth (Nat.mul i n) l with|true,some v=>.v v m|_,_=>.bad
    | _,_=>.bad⟩
   | _,_=>xBadK
  | some .string=>⟨fun e m=>match (rdK x).run e,(rdK y).run e with
    | .s l,.i _ (.ofNat i)=>match xNth i l with|some b=>.v (.i .u8 (.ofNat b.toNat)) m|none=>.bad
    | _,_=>.bad⟩
  | _=>xBadK
 | .lookup t x y ok=>match P.underlying t with
  | some (.map kt el)=>match mapKind P kt,xZeroT P el with
   | some mk,some z=>⟨fun e m=>match (rdK x).run e with
    | .m k=>match m.obj k,keyOk mk ((rdK y).run e) with
     | some (.map es),true=>match findX mk ((rdK y).run e) es with
      | some (some v)=>.rd (match ok with|true=>.t [v,.b true]|false=>v) k
      | some none=>.rd (match ok with|true=>.t [z,.b false]|false=>z) k
      | none=>.bad
     | _,_=>.bad
    | _=>.bad⟩
   | _,_=>xBadK
  | _=>xBadK
 | .mapUpdate t x y z=>match P.underlying t with
  | some (.map kt _)=>match mapKind P kt with
   | some mk=>⟨fun e m=>match (rdK x).run e with
    | .m k=>match m.M.get k,keyOk mk ((rdK y).run e) with
     | some (.own (.map es)),true=>match putX mk ((rdK y).run e) ((rdK z).run e) es with
      | some es=>.v .undef (m.put k (.map es))
      | none=>.bad
     | _,_=>.bad
    | _=>.bad⟩
   | none=>xBadK
  | _=>xBadK
 | .slice t x (some lo) none none=>match P.underlying t with
  | some (.slice el)=>match xSzT P el with
   | some n=>⟨fun e m=>match (rdK x).run e,(rdK lo).run e with
    | .sl k off ln true c,.i _ (.ofNat a)=>match Nat.ble a ln with
     | true=>.v (.sl k (match Nat.beq c a with|true=>off|false=>Nat.add off (Nat.mul a n)) (Nat.sub ln a) true (Nat.sub c a)) m
     | false=>.bad
    | _,_=>.bad⟩
   | none=>xBadK
  | _=>xBadK
 | .extract x i=>⟨fun e m=>match (rdK x).run e with | .t l=>xVOf m (xNth i l)|_=>.bad⟩
 | .call c=>match c.callee with
  | .builtin b=>⟨fun e m=>(builtinK P b c.argTypes.toList).run ((rdsK c.args.toList).run e) m⟩
  | .value x=>⟨fun e _=>callK P ((rdK x).run e) ((rdsK c.args.toList).run e)⟩
  | _=>xBadK
 | .go c=>match c.callee with
  | .value x=>⟨fun e _=>.go ((rdK x).run e) ((rdsK c.args.toList).run e)⟩
  | _=>xBadK
 | .defer c=>match c.callee,c.args.toList with
  | .builtin .close,[.tmp t]=>⟨fun e _=>match e.get t with|some x=>.dclose x|none=>.bad⟩
  | _,_=>xBadK
 | .send x y=>⟨fun e _=>match (rdK x).run e with | .c k=>.send k ((rdK y).run e)|_=>.bad⟩
 | .recv t x ok=>match P.underlying t with
  | some (.chan _ el)=>match xZeroT P el with
   | some _=>⟨fun e _=>match (rdK x).run e with | .c k=>.recv k ok|_=>.bad⟩
   | none=>xBadK
  | _=>xBadK
 | _=>xBadK
/-- Operations that do nothing but yield a value. -/
noncomputable def xMild:Op→Bool
 | .move _ | .assign _ | .pick .. | .build .. | .load .. | .nilCheck _ | .binOp .. | .unOp .. | .makeFunc .. | .fieldAddr .. | .indexAddr .. | .index .. | .lookup .. | .extract .. | .slice .. | .convert ..=>true
 | .call {callee:=.builtin .len,..} | .call {callee:=.builtin .min,..} | .call {callee:=.builtin .max,..}=>true
 | _=>false
/-- It may be carried out early: an allocation that waits for nothing. -/
noncomputable def xEarly(l:List Oper)(j:Nat):Bool:=match l[j]? with
 | some o=>(match o.op,o.dst,o.guard with | .alloc _,some _,none=>true|_,_,_=>false)&&o.after.toList.isEmpty&&Ahv l (List.replicate l.length false) j
 | none=>false
noncomputable def xFloat(l:List Oper):Option Nat:=(List.range l.length).find? (xEarly l)
/-- What comes up when the early one has come up. -/
noncomputable def xRest0(l:List Oper)(fl:Option Nat)(li:List Bool)(i:Nat):List Nat :=
 Dl l (match fl with|some f=>(match Nat.beq f i with|true=>li|false=>li.set f true)|none=>li)
/-- Nothing else may come up,but for what may be early. -/
noncomputable def xOnly(l:List Oper)(fl:Option Nat)(li:List Bool)(i:Nat):Bool:=(xRest0 l fl li i).all (Nat.beq i)
noncomputable def xTake(l:List Oper)(li:List Bool)(i:Nat):Bool:=(match l[i]? with|some o=>xMild o.op&&o.dst.isSome|none=>false)&&Ahv l li i
/-- The early one may still come. -/
noncomputable def xFp(fl:Option Nat)(li:List Bool)(i:Nat):Bool:=match fl with
 | some f=>!(li.getD f true) && !(Nat.beq f i)
 | none=>false
/-- (number,taken first,the early one may come here) -/
noncomputable def xPlan(l:List Oper)(fl:Option Nat):Nat→List Bool→List (Nat×Bool×Bool)
 | 0,_=>[]
 | n+1,li=>match (Dl l li).filter (fun i=>match fl with|some f=>!(Nat.beq f i)|none=>true) with
  | []=>match fl with
   | some f=>match li.getD f true with
    | true=>[]
    | false=>(f,false,false)::xPlan l fl n (li.set f true)
   | none=>[]
  | r::rs=>match xOnly l fl li r with
   | true=>(r,false,xFp fl li r)::xPlan l fl n (li.set r true)
   | false=>match (r::rs).find? (xTake l li) with
    | some i=>(i,true,false)::xPlan l fl n (li.set i true)
    | none=>[]
noncomputable def xLate(l:List Oper)(pz:List Nat)(i:Nat):Bool:=match l[i]? with
 | some o=>pz.all fun j=>o.after.toList.any fun e=>Region.binds .any e&&e.on==j
 | none=>false
/-- The plan may be followed. -/
noncomputable def xGood(l:List Oper)(fl:Option Nat)(pz:List Nat):List (Nat×Bool×Bool)→List Bool→Bool
 | [],li=>match Dl l li with|[]=>true|_=>false
 | (i,tk,fp)::r,li=>(Dl l li).contains i&&(match tk with
   | true=>pz.contains i&&xTake l li i&&(match fl with|some f=>!(Nat.beq f i)|none=>true)
   | false=>xOnly l fl li i&&(match xFp fl li i with|true=>fp|false=>true))&&xGood l fl pz r (li.set i true)
inductive R where
 | n (s:St)
 | x (id:Nat) (s:St)
 | r (s:St)
 | bad
inductive RV where
 | v (x:CV) (m:Mem)
 | bad
/-- mn: the first goroutine;ch: what is sent over. -/
structure Fns where
 mn:Bool
 ch:Nat
 code:Nat→Option Nat→Code→St→R
 call:FuncId→List CV→Mem→RV
 send:FuncId→List CV→Mem→Nat→Option (List CV)
/-- What an operation brings. -/
inductive OV where
 | v (x:CV) (m:Mem) (ds:List CD)
 | bad
noncomputable def xKeysV:CV→List Nat:=CV.rec (motive_1:=fun _=>List Nat) (motive_2:=fun _=>List Nat) [] (fun _=>[]) (fun _ _=>[]) (fun _=>[]) [] (fun k _=>[k]) [] (fun k _ _ _ _=>[k]) [] (fun k=>[k]) [] (fun _=>[]) [] (fun _ _ _ a b=>xApp a b) (fun _=>[]) [] (fun _ _ a=>a) (fun _ a=>a) (fun _ a=>a) [] (fun _ _ a b=>xApp a b)
noncomputable def xKeysL(l:List CV):List Nat:=List.rec (motive:=fun _=>List Nat) [] (fun a _ ih=>xApp (xKeysV a) ih) l
noncomputable def xKeysO:CO→List Nat
 | .cells l=>xKeysL l
 | .grow _ l=>xKeysL l
 | .map es=>xKeysL (es.map (·.1))++xKeysL (es.map (·.2))
 | _=>[]
/-- What can be reached is shared. -/
noncomputable def xShare(n:Nat):List Nat→Tr Cell→Tr Cell:=Nat.rec (motive:=fun _=>List Nat→Tr Cell→Tr Cell) (fun _ M=>M)
 (fun _ ih l M=>match l with
  | []=>M
  | k::l=>match M.get k with
   | some (.own (.cells c))=>ih (xApp (xKeysL c) l) (M.set k (.ro (.cells c)))
   | some (.own (.grow z c))=>ih (xApp (xKeysL c) l) (M.set k (.ro (.grow z c)))
   | some (.own (.map es))=>ih (xApp (xKeysO (.map es)) l) (M.set k (.ro (.map es)))
   | _=>ih l M) n
noncomputable def xIsRcv:Option Cell→Bool
 | some (.own (.rcv _))=>true
 | _=>false
noncomputable def xNoRcv(t:Tr Cell):Bool:=Tr.rec (motive:=fun _=>Bool) true (fun v _ _ a b=>match xIsRcv v with|true=>false|false=>match a with|true=>b|false=>false) t
noncomputable def xRoOf:Option Cell→Option Cell
 | some (.ro o)=>some (.ro o)
 | _=>none
noncomputable def xOnlyRo(t:Tr Cell):Tr Cell:=Tr.rec (motive:=fun _=>Tr Cell) .leaf (fun v _ _ a b=>.node (xRoOf v) a b) t
noncomputable def xPutP(ps:List Tmp):List CV→Tr CV→Tr CV:=List.rec (motive:=fun _=>List CV→Tr CV→Tr CV) (fun _ e=>e) (fun t _ ih l e=>match l with|a::l=>ih l (e.set t a)|[]=>e) ps
noncomputable def xArgEnv(args:List CV):Nat→Tr CV→Tr CV:=List.rec (motive:=fun _=>Nat→Tr CV→Tr CV) (fun _ e=>e) (fun a _ ih i e=>ih (Nat.succ i) (e.set i a)) args
noncomputable def xChanOf(l:List CV):Option Nat:=List.rec (motive:=fun _=>Option Nat) none (fun a _ ih=>match a with | .c k=>some k|_=>ih) l
noncomputable def xRev(l:List CV):List CV→List CV:=List.rec (motive:=fun _=>List CV→List CV) (fun r=>r) (fun a _ ih r=>ih (a::r)) l
noncomputable def xAllLt(n:Nat)(l:List Nat):Bool:=List.rec (motive:=fun _=>Bool) true (fun t _ ih=>match Nat.ble (Nat.succ t) n with|true=>ih|false=>false) l
noncomputable def xRest(m:Mem)(o:List CV):Mem:=⟨m.M,m.nx,m.log,m.ln,o⟩
noncomputable def xEndRound(m:Mem)(ds:List CD)(k:Nat)(j:Option Code):OV:=match m.M.get k with
 | some (.own (.loop _ _ n env ps as_ body dk))=>.v (.b (match j with|none=>true|some _=>false)) (m.put k (.loop (match j with|none=>0|some _=>2) j n env ps as_ body dk)) ds
 | _=>.bad
/-- An operation's result,carried out. -/
noncomputable def doOR(F:Fns)(st:St):OR→OV
 | .v x m=>.v x m st.ds
 | .rd x _=>.v x st.m st.ds
 | .enter f args=>match F.call f args st.m with | .v x m=>.v x (xRest m st.m.outs) st.ds | .bad=>.bad
 | .round k args=>match st.m.M.get k with
  | some (.own (.loop 0 _ n env ps as_ body _))=>match Nat.beq (xLen args) (xLen ps),xAllLt n ps with
   | true,true=>match F.code n (some k) as_ ⟨xPutP ps args env,st.m,[]⟩ with
    | .n st1=>match st1.ds,st1.m.M.get k with
     | [],some (.own (.loop 0 pd n' env' ps' as' body' dk'))=>match F.code n (some k) body ⟨st1.e,st1.m.put k (.loop 1 pd n' env' ps' as' body' dk'),[]⟩ with
      | .n st3=>xEndRound (xRest st3.m st.m.outs) st.ds k none
      | .x id st3=>xEndRound (xRest st3.m st.m.outs) st.ds k (some (.exit id))
      | .r st3=>xEndRound (xRest st3.m st.m.outs) st.ds k (some .ret)
      | .bad=>.bad
     | _,_=>.bad
    | _=>.bad
   | _,_=>.bad
  | _=>.bad
 | _=>.bad
/-- What is more in the text's order: a goroutine is started,something is received. -/
noncomputable def doX1(F:Fns)(_:Option Nat)(st:St):OR→OV
 | .go f args=>match F.mn,f with
  | true,.f g [] [] =>
   let all:=args
   match xNoRcv st.m.M,xChanOf all with
   | true,some k =>
    let M:=xShare 100000 (xKeysL all) st.m.M
    match M.get k,F.send g all ⟨xOnlyRo M,st.m.nx,[],0,[]⟩ k with
    | some (.own .chan),some outs=>.v .undef ⟨M.set k (.own (.rcv (xRev outs []))),st.m.nx,k::st.m.log,Nat.succ st.m.ln,st.m.outs⟩ st.ds
    | _,_=>.bad
   | _,_=>.bad
  | _,_=>.bad
 | .recv k ok=>match F.mn,ok with
  | true,true=>match st.m.M.get k with
   | some (.own (.rcv (v::vs)))=>.v (.t [v,.b true]) (st.m.put k (.rcv vs)) st.ds
   | some (.own (.rcv []))=>.v (.t [.bad,.b false]) (st.m.put k .dead) st.ds
   | _=>.bad
  | _,_=>.bad
 | y=>doOR F st y
/-- It tells its value by itself. -/
noncomputable def xPlainV:CV→Bool
 | .b _ | .i _ _ | .s _=>true
 | _=>false
/-- What is more for a sender. -/
noncomputable def doS1(F:Fns)(rd:Option Nat)(st:St):OR→OV
 | .send k x=>match Nat.beq k F.ch,xPlainV x with
  | true,true=>.v .undef (xRest st.m (x::st.m.outs)) st.ds
  | _,_=>.bad
 | .dclose x=>match rd,x,st.ds with
  | none,.c k,[]=>match Nat.beq k F.ch with|true=>.v .undef st.m [.close k]|false=>.bad
  | _,_,_=>.bad
 | y=>doOR F st y
/-- Nothing is left open in it. -/
noncomputable def xOkV:CV→Bool:=CV.rec (motive_1:=fun _=>Bool) (motive_2:=fun _=>Bool) false (fun _=>true) (fun _ _=>true) (fun _=>true) true (fun _ _=>true) true (fun _ _ _ _ _=>true) true (fun _=>true) true (fun _=>true) true (fun _ _ _ a b=>a&&b) (fun _=>true) true (fun _ _ a=>a) (fun _ a=>a) (fun _ a=>a) true (fun _ _ a b=>a&&b)
structure KS where
 run:Fns→Option Nat→St→R
structure KD where
 run:Fns→Option Nat→List Nat→List Nat→Nat→Nat→Nat→St→R
structure KG where
 run:Tr CV→Bool
structure KP where
 run:Tr CV→CV→Tr CV
/-- Whether goroutines may be started;operations. -/
structure DX where
 gl:Bool
 run:Fns→Option Nat→St→OR→OV
noncomputable def doX:DX:=⟨true,doX1⟩
noncomputable def doS:DX:=⟨false,doS1⟩
noncomputable def dstK:Option Tmp→KP
 | some d=>⟨fun e v=>e.set d v⟩
 | none=>⟨fun e _=>e⟩
noncomputable def guardK(l:List Oper)(o:Oper):KG:=match o.guard with
 | none=>⟨fun _=>true⟩
 | some (j,w)=>match (l[j]?).bind (·.dst) with
  | some d=>⟨fun e=>match e.get d with|some (.b x)=>(match x,w with|true,true=>true|false,false=>true|_,_=>false)|_=>false⟩
  | none=>⟨fun _=>false⟩
/-- The guard is told. -/
noncomputable def gokK(l:List Oper)(o:Oper):KG:=match o.guard with
 | none=>⟨fun _=>true⟩
 | some (j,_)=>match (l[j]?).bind (·.dst) with
  | some d=>⟨fun e=>match e.get d with|some (.b _)=>true|some (.t _)=>true|_=>false⟩
  | none=>⟨fun _=>false⟩
/-- A region in the text's order. -/
noncomputable def textK(P:Program)(dx:DX)(l:List Oper):List Oper→KS
 | []=>⟨fun _ _ st=>.n st⟩
 | o::r=>match opK P o.op,dstK o.dst,guardK l o,gokK l o,textK P dx l r with
  | ⟨f⟩,⟨d⟩,⟨g⟩,⟨gk⟩,⟨k⟩=>⟨fun F rd st=>match gk st.e with
   | false=>.bad
   | true=>match g st.e with
    | false=>k F rd ⟨d st.e .undef,st.m,st.ds⟩
    | true=>match dx.run F rd st (f st.e st.m) with
     | .v x m ds=>k F rd ⟨d st.e x,m,ds⟩
     | .bad=>.bad⟩
noncomputable def xNoneOf(K:List Nat)(n:Nat):List Nat→Bool:=Nat.rec (motive:=fun _=>List Nat→Bool) (fun _=>true)
 (fun _ ih l=>match l with|[]=>true|k::l=>match K.any (Nat.beq k) with|true=>false|false=>ih l) n
noncomputable def xFpc(fp:Bool)(pz:List Nat):Bool:=match fp,pz with
 | true,_::_=>true
 | _,_=>false
/-- A region whose order is open. -/
noncomputable def anyK(P:Program)(l:List Oper)(pz:List Nat):List (Nat×Bool×Bool)→KD
 | []=>⟨fun _ _ K lg ln n0 _ st=>match xNoneOf K (Nat.sub ln n0) lg with|true=>.n st|false=>.bad⟩
 | (i,tk,fp)::r=>match l[i]?,anyK P l pz r with
  | none,_=>⟨fun _ _ _ _ _ _ _ _=>.bad⟩
  | some o,⟨k⟩=>match opK P o.op,dstK o.dst,guardK l o,gokK l o,xLate l pz i,tk,xFpc fp pz with
   | ⟨f⟩,⟨d⟩,⟨g⟩,⟨gk⟩,_,true,_=>⟨fun F rd K lg ln n0 nx0 st=>match Nat.beq ln st.m.ln,gk st.e with
    | true,true=>match g st.e with
     | false=>k F rd K lg ln n0 nx0 ⟨d st.e .undef,st.m,st.ds⟩
     | true=>match f st.e st.m with
      | .rd x q=>match xOkV x,Nat.ble (Nat.succ q) nx0 with
       | true,true=>k F rd (q::K) lg ln n0 nx0 ⟨d st.e x,st.m,st.ds⟩
       | _,_=>.bad
      | .v x m=>match Nat.beq m.nx st.m.nx with
       | true=>k F rd K lg ln n0 nx0 ⟨d st.e x,st.m,st.ds⟩
       | false=>.bad
      | _=>.bad
    | _,_=>.bad⟩
   | ⟨f⟩,⟨d⟩,⟨g⟩,⟨gk⟩,late,false,fc=>⟨fun F rd K lg ln n0 nx0 st=>match (match fc with|true=>Nat.beq ln st.m.ln|false=>true),gk st.e with
    | true,true=>match (match g st.e with|false=>OV.v .undef st.m st.ds|true=>doOR F st (f st.e st.m)) with
     | .v x m ds=>match late with
      | true=>k F rd K lg ln n0 nx0 ⟨d st.e x,m,ds⟩
      | false=>k F rd K m.log m.ln n0 nx0 ⟨d st.e x,m,ds⟩
     | .bad=>.bad
    | _,_=>.bad⟩
noncomputable def xSlotsN(n:Nat):List Oper→Bool
 | []=>true
 | o::l=>match o.dst with
  | some d=>match Nat.ble (Nat.succ d) n with|true=>xSlotsN n l|false=>false
  | none=>xSlotsN n l
noncomputable def xPz(p:List (Nat×Bool×Bool)):List Nat:=(p.filter (·.2.1)).map (·.1)
/-- The early one's zero value is known. -/
noncomputable def xAlOk(P:Program)(l:List Oper):Option Nat→Bool
 | none=>true
 | some f=>match l[f]? with
  | some o=>match o.op with
   | .alloc t=>match xZeroT P t with
    | some z=>match z.cells with|some _=>true|none=>false
    | none=>false
   | _=>false
  | none=>false
/-- A drawn region that starts no goroutine. -/
noncomputable def drawK(P:Program)(l:List Oper):KS:=match Apw l,P.follows .mixedOrders,xAlOk P l (xFloat l) with
 | true,true,true =>
  let p:=xPlan l (xFloat l) l.length (List.replicate l.length false)
  let pz:=xPz p
  match xGood l (xFloat l) pz p (List.replicate l.length false),anyK P l pz p with
  | true,⟨k⟩=>⟨fun F rd st=>k F rd [] st.m.log st.m.ln st.m.ln st.m.nx st⟩
  | false,_=>⟨fun _ _ _=>.bad⟩
 | _,_,_=>⟨fun _ _ _=>.bad⟩
noncomputable def xGoLast(l:List Oper):Bool:=match l.getLast? with
 | some o=>match o.op with | .go _=>true|_=>false
 | none=>false
noncomputable def regK(P:Program)(dx:DX)(n:Nat)(l:List Oper)(draw:Bool):KS:=match xSlotsN n l with
 | false=>⟨fun _ _ _=>.bad⟩
 | true=>match draw with
  | false=>textK P dx l l
  | true=>match xGoLast l,dx.gl with
   | false,_=>drawK P l
   | true,false=>⟨fun _ _ _=>.bad⟩
   | true,true=>match Adh (l.take (l.length-1)),Amp (l.take (l.length-1)) l,drawK P (l.take (l.length-1)),textK P dx l (l.drop (l.length-1)) with
    | true,true,⟨f⟩,⟨g⟩=>⟨fun F rd st=>match f F rd st with | .n st=>g F rd st|_=>.bad⟩
    | _,_,_,_=>⟨fun _ _ _=>.bad⟩
structure KC where
 run:Fns→Option Nat→St→R
noncomputable def xLoopR(f:Fns→Option Nat→St→R)(F:Fns)(rd:Option Nat)(n:Nat):St→R:=Nat.rec (motive:=fun _=>St→R) (fun _=>.bad)
 (fun _ ih st=>match f F rd st with | .n st=>ih st|y=>y) n
/-- A range over a function,from where its record has been laid. -/
noncomputable def xRange(F:Fns)(n:Nat)(ps:List Tmp)(as_ body:Code)(g:FuncId)(ys:List CV)(e:Tr CV)(dk:Nat)(m:Mem)(ds:List CD):R :=
 match F.call g (.y m.nx::ys) (m.add (.loop 0 none n e ps as_ body dk)) with
 | .v _ m'=>match m'.M.get m.nx with
  | some (.own (.loop b pd n' env ps' as' body' dk'))=>match Nat.beq b 1 with
   | true=>.bad
   | false=>match pd with
    | none=>.n ⟨e,xRest (m'.put m.nx (.loop 3 none n' env ps' as' body' dk')) m.outs,ds⟩
    | some c=>match c with
     | .exit id=>.x id ⟨e,xRest (m'.put m.nx (.loop 3 pd n' env ps' as' body' dk')) m.outs,ds⟩
     | .ret=>.r ⟨e,xRest (m'.put m.nx (.loop 3 pd n' env ps' as' body' dk')) m.outs,ds⟩
     | _=>.bad
  | _=>.bad
 | .bad=>.bad
noncomputable def codeK(P:Program)(dx:DX)(n:Nat):Code→KC
 | .skip=>⟨fun _ _ st=>.n st⟩
 | .region _ ops draw=>match regK P dx n ops.toList draw with|⟨k⟩=>⟨fun F rd st=>k F rd st⟩
 | .seq a b=>match codeK P dx n a,codeK P dx n b with
  | ⟨f⟩,⟨g⟩=>⟨fun F rd st=>match f F rd st with | .n st=>g F rd st|y=>y⟩
 | .cond c a b=>match rdK c,codeK P dx n a,codeK P dx n b with
  | ⟨c⟩,⟨f⟩,⟨g⟩=>⟨fun F rd st=>match c st.e with | .b true=>f F rd st | .b false=>g F rd st|_=>.bad⟩
 | .block id a=>match codeK P dx n a with
  | ⟨f⟩=>⟨fun F rd st=>match f F rd st with | .x j st=>(match Nat.beq j id with|true=>.n st|false=>.x j st)|y=>y⟩
 | .loop a=>match codeK P dx n a with|⟨f⟩=>⟨fun F rd st=>xLoopR f F rd 1000000 st⟩
 | .exit id=>⟨fun _ _ st=>.x id st⟩
 | .ret=>⟨fun _ _ st=>.r st⟩
 | .rangeFunc f ps as_ body=>match rdK f,xAllLt n ps.toList with
  | ⟨f⟩,true=>⟨fun F rd st=>match f st.e with
   | .f g [] ys=>match xHasBody P g with
    | true=>match rd with
     | some l=>match st.m.M.get l with|some (.own (.loop _ _ _ _ _ _ _ dk))=>xRange F n ps.toList as_ body g ys st.e dk st.m st.ds|_=>.bad
     | none=>xRange F n ps.toList as_ body g ys st.e st.m.nx (st.m.add .defd) (.mark st.m.nx::st.ds)
    | false=>.bad
   | _=>.bad⟩
  | _,false=>⟨fun _ _ _=>.bad⟩
 | _=>⟨fun _ _ _=>.bad⟩
structure KR where
 run:Tr CV→Mem→Option (List CV)
noncomputable def resK(P:Program):List ResultVar→KR
 | []=>⟨fun _ _=>some []⟩
 | .tmp t::l=>match resK P l with|⟨g⟩=>⟨fun e m=>match g e m with|some r=>some ((match e.get t with|some v=>v|none=>.bad)::r)|none=>none⟩
 | .cell a t::l=>match resK P l,partK P t with
  | ⟨g⟩,⟨h⟩=>⟨fun e m=>match e.get a with
   | some (.p k off)=>match m.row k with
    | some c=>match h (xDrp off c),g e m with|some v,some r=>some (v::r)|_,_=>none
    | none=>none
   | _=>none⟩
structure KF where
 run:Fns→List CV→Mem→RV
noncomputable def xDefersR(l:List CD):Mem→Option Mem:=List.rec (motive:=fun _=>Mem→Option Mem) (fun m=>some m)
 (fun d _ ih m=>match d with
  | .mark k=>match m.M.get k with|some (.own .defd)=>ih (m.put k .dead)|_=>none
  | .close _=>none) l
noncomputable def xFin(h:Tr CV→Mem→Option (List CV))(st:St):RV:=match xDefersR st.ds st.m with
 | some m=>match h st.e m with
  | some [v]=>.v v m
  | some l=>.v (.t l) m
  | none=>.bad
 | none=>.bad
noncomputable def funK(P:Program)(g:Nat):KF:=match P.funcs[g]? with
 | some fn=>match fn.body with
  | some c=>match codeK P doX fn.ntmps c,resK P fn.results.toList,fn.ntmps with
   | ⟨f⟩,⟨h⟩,n=>⟨fun F args m=>match Nat.ble (xLen args) n with
    | true=>match f F none ⟨xArgEnv args 0 .leaf,m,[]⟩ with
     | .n st=>xFin h st
     | .r st=>xFin h st
     | _=>.bad
    | false=>.bad⟩
  | none=>⟨fun _ _ _=>.bad⟩
 | none=>⟨fun _ _ _=>.bad⟩
structure KX where
 run:Fns→List CV→Mem→Nat→Option (List CV)
noncomputable def xFinS(k:Nat)(st:St):Option (List CV):=match st.ds with|[.close j]=>(match Nat.beq j k with|true=>some st.m.outs|false=>none)|_=>none
/-- A sender. -/
noncomputable def sendK(P:Program)(g:Nat):KX:=match P.funcs[g]?,xHasBody P g with
 | some fn,true=>match fn.body,fn.results.toList with
  | some c,[]=>match codeK P doS fn.ntmps c,fn.ntmps with
   | ⟨f⟩,n=>⟨fun F args m k=>match Nat.ble (xLen args) n with
    | true=>match f ⟨false,k,F.code,F.call,F.send⟩ none ⟨xArgEnv args 0 .leaf,m,[]⟩ with
     | .n st=>xFinS k st
     | .r st=>xFinS k st
     | _=>none
    | false=>none⟩
  | _,_=>⟨fun _ _ _ _=>none⟩
 | _,_=>⟨fun _ _ _ _=>none⟩
/-- The runs of a worker's functions,n calls deep. -/
noncomputable def xWF(P:Program)(n:Nat):Fns:=Nat.rec ⟨false,0,fun _ _ _ _=>.bad,fun _ _ _=>.bad,fun _ _ _ _=>none⟩
 (fun _ F=>⟨false,0,fun n rd c st=>match codeK P doX n c with|⟨f⟩=>f F rd st,fun g args m=>match funK P g with|⟨f⟩=>f F args m,fun _ _ _ _=>none⟩) n
noncomputable def xFns(P:Program)(n:Nat):Fns:=Nat.rec ⟨true,0,fun _ _ _ _=>.bad,fun _ _ _=>.bad,fun _ _ _ _=>none⟩
 (fun n F=>⟨true,0,fun n rd c st=>match codeK P doX n c with|⟨f⟩=>f F rd st,fun g args m=>match funK P g with|⟨f⟩=>f F args m,
  fun g args m k=>match sendK P g with|⟨f⟩=>f (xWF P n) args m k⟩) n
theorem Ayl{α:Type}(a b:α)(x y:Nat):(Bool.rec a b (Nat.beq x y):α)=if x=y then b else a:=by
 by_cases h:x=y
 ·subst h;simp
 ·have:Nat.beq x y=false:=by
   cases hb:Nat.beq x y with
   | false=>rfl
   | true=>exact absurd (Vg hb) h
  rw[this,if_neg h]
theorem Tr.get_leaf{α}(k:Nat):(Tr.leaf:Tr α).get k=none:=rfl
theorem Tr.get_node{α}(v:Option α)(l r:Tr α)(k:Nat):(Tr.node v l r).get k=if k=0 then v else if k%2=0 then r.get (k/2-1) else l.get (k/2):=by
 show (Bool.rec (Bool.rec (l.get (k/2)) (r.get (k/2-1)) (Nat.beq (k%2) 0)) v (Nat.beq k 0):Option α)=_
 rw[Ayl,Ayl]
theorem Tr.put_leaf{α}(n k:Nat)(a:α):Tr.put (n+1) .leaf k a=if k=0 then .node (some a) .leaf .leaf else if k%2=0 then .node none .leaf (Tr.put n .leaf (k/2-1) a) else .node none (Tr.put n .leaf (k/2) a) .leaf:=by
 show (Bool.rec (Bool.rec (.node none (Tr.put n .leaf (k/2) a) .leaf) (.node none .leaf (Tr.put n .leaf (k/2-1) a)) (Nat.beq (k%2) 0)) (.node (some a) .leaf .leaf) (Nat.beq k 0):Tr α)=_
 rw[Ayl,Ayl]
theorem Tr.put_node{α}(n k:Nat)(v:Option α)(l r:Tr α)(a:α):Tr.put (n+1) (.node v l r) k a=if k=0 then .node (some a) l r else if k%2=0 then .node v l (Tr.put n r (k/2-1) a) else .node v (Tr.put n l (k/2) a) r:=by
 show (Bool.rec (Bool.rec (.node v (Tr.put n l (k/2) a) r) (.node v l (Tr.put n r (k/2-1) a)) (Nat.beq (k%2) 0)) (.node (some a) l r) (Nat.beq k 0):Tr α)=_
 rw[Ayl,Ayl]
theorem Tr.get_put{α:Type}:∀(n:Nat) (t:Tr α) (k:Nat) (a:α) (j:Nat),k<n→(Tr.put n t k a).get j=if j=k then some a else t.get j
 | 0,_,_,_,_,h=>absurd h (Uk _)
 | n+1,t,k,a,j,h=>by
  have key:∀(v:Option α) (l r:Tr α),(Tr.put (n+1) (.node v l r) k a).get j=if j=k then some a else (Tr.node v l r).get j:=fun v l r=>by
   rw[Tr.put_node]
   by_cases hk:k=0
   ·subst hk
    rw[if_pos rfl,Tr.get_node,Tr.get_node]
    by_cases hj:j=0
    ·rw[if_pos hj,if_pos hj]
    ·rw[if_neg hj,if_neg hj,if_neg hj]
   ·rw[if_neg hk]
    by_cases h2:k%2=0
    ·rw[if_pos h2,Tr.get_node,Tr.get_node,Tr.get_put n r _ a _ (by omega)]
     by_cases hj:j=0
     ·subst hj;rw[if_pos rfl,if_pos rfl,if_neg (by omega)]
     ·rw[if_neg hj,if_neg hj]
      by_cases hj2:j%2=0
      ·rw[if_pos hj2,if_pos hj2]
       by_cases hjk:j=k
       ·rw[if_pos (by omega),if_pos hjk]
       ·rw[if_neg (by omega),if_neg hjk]
      ·rw[if_neg hj2,if_neg hj2,if_neg (by omega)]
    ·rw[if_neg h2,Tr.get_node,Tr.get_node,Tr.get_put n l _ a _ (by omega)]
     by_cases hj:j=0
     ·subst hj;rw[if_pos rfl,if_pos rfl,if_neg (by omega)]
     ·rw[if_neg hj,if_neg hj]
      by_cases hj2:j%2=0
      ·rw[if_pos hj2,if_pos hj2,if_neg (by omega)]
      ·rw[if_neg hj2,if_neg hj2]
       by_cases hjk:j=k
       ·rw[if_pos (by omega),if_pos hjk]
       ·rw[if_neg (by omega),if_neg hjk]
  cases t with
  | node v l r=>exact key v l r
  | leaf =>
   have e:Tr.put (n+1) .leaf k a=Tr.put (n+1) (.node none .leaf .leaf) k a:=by rw[Tr.put_leaf,Tr.put_node]
   rw[e,key none .leaf .leaf,Tr.get_node,Tr.get_leaf]
   simp[Tr.get_leaf]
theorem Tr.get_set{α}(t:Tr α)(k:Nat)(a:α)(j:Nat):(t.set k a).get j=if j=k then some a else t.get j:=Tr.get_put _ t k a j (Bcg _)
theorem Aue{α:Type}:∀(n:Nat) (l:List α),xDrp n l=l.drop n
 | 0,l=>rfl
 | n+1,[]=>by simp[xDrp]
 | n+1,a::l=>Aue n l
theorem Auh{α:Type}:∀(n:Nat) (l r:List α),xTkn n l=some r→n≤l.length∧r=l.take n
 | 0,l,r,h=>by cases h;exact⟨Hz _,rfl⟩
 | n+1,[],r,h=>by cases h
 | n+1,a::l,r,h=>by
  have h':(match xTkn n l with|some r=>some (a::r)|none=>none)=some r:=h
  cases hx:xTkn n l with
  | none=>rw[hx]at h';cases h'
  | some r' =>
   rw[hx]at h';cases h'
   obtain⟨b,c⟩:=Auh n l r' hx
   exact⟨Awb b,by rw[c];rfl⟩
theorem Ajh{α:Type}:∀(n:Nat) (l:List α),xNth n l=l[n]?
 | 0,[]=>rfl
 | 0,a::l=>rfl
 | n+1,[]=>rfl
 | n+1,a::l=>by rw[Aem];exact Ajh n l
theorem Afm{α:Type}:∀(x y:List α),xApp x y=x++y
 | [],y=>rfl
 | a::x,y=>by rw[Wj,←Afm x y];rfl
theorem Tz{α:Type}:∀(x:List α),xLen x=x.length
 | []=>rfl
 | a::x=>by rw[lZ3,←Tz x];rfl
theorem Axy:∀(vs l r:List CV),xOver vs l=some r→vs.length≤l.length∧r=vs++l.drop vs.length
 | [],l,r,h=>by cases h;exact⟨Hz _,rfl⟩
 | v::vs,[],r,h=>by cases h
 | v::vs,a::l,r,h=>by
  have h':(match xOver vs l with|some r=>some (v::r)|none=>none)=some r:=h
  cases hx:xOver vs l with
  | none=>rw[hx]at h';cases h'
  | some r' =>
   rw[hx]at h';cases h'
   obtain⟨b,c⟩:=Axy vs l r' hx
   exact⟨Awb b,by rw[c];rfl⟩
theorem Axz:∀(n:Nat) (vs l r:List CV),xSetL n vs l=some r→n+vs.length≤l.length∧r=l.take n++(vs++l.drop (n+vs.length))
 | 0,vs,l,r,h=>by
  obtain⟨h1,h2⟩:=Axy vs l r h
  exact⟨by omega,by rw[h2];simp⟩
 | n+1,vs,[],r,h=>by cases h
 | n+1,vs,a::l,r,h=>by
  have h':(match xSetL n vs l with|some r=>some (a::r)|none=>none)=some r:=h
  cases hx:xSetL n vs l with
  | none=>rw[hx]at h';cases h'
  | some r' =>
   rw[hx]at h';cases h'
   obtain⟨h1,h2⟩:=Axz n vs l r' hx
   refine⟨by simp only[lZ3];omega,?_⟩
   rw[h2,show n+1+vs.length=(n+vs.length)+1 by omega];rfl
/-- Where the blocks of one's own numbers lie,and how many elements a row that grows has room for. -/
abbrev XR:=Nat→Option (Nat×Nat)
def XR.le(R R':XR):Prop:=∀k q,R k=some q→R' k=some q
theorem XR.le.refl{R}:XR.le R R:=fun _ _ h=>h
theorem XR.le.trans{R R' R''}(h:XR.le R R')(h':XR.le R' R''):XR.le R R'':=fun k q hk=>h' k q (h k q hk)
inductive VR(R:XR):List CV→List Value→Prop
 | nil:VR R [] []
 | bad {l:List CV} {l':List Value} (v:Value):VR R l l'→VR R (.bad::l) (v::l')
 | b {l:List CV} {l':List Value} (x:Bool):VR R l l'→VR R (.b x::l) (.bool x::l')
 | i {l:List CV} {l':List Value} (k:IntKind) (n:Int):VR R l l'→VR R (.i k n::l) (.int k n::l')
 | s {l:List CV} {l':List Value} (x:List UInt8):VR R l l'→VR R (.s x::l) (.string ⟨x.toArray⟩::l')
 | pn {l:List CV} {l':List Value}:VR R l l'→VR R (.pn::l) (.pointer none::l')
 | p {l:List CV} {l':List Value} {k off b c:Nat}:R k=some (b,c)→VR R l l'→VR R (.p k off::l) (.pointer (some ⟨b,off,none⟩)::l')
 | sn {l:List CV} {l':List Value}:VR R l l'→VR R (.sn::l) (.slice none 0 0::l')
 | slK {l:List CV} {l':List Value} {k off ln cp b c:Nat}:R k=some (b,c)→VR R l l'→VR R (.sl k off ln true cp::l) (.slice (some ⟨b,off,none⟩) ln cp::l')
 | slU {l:List CV} {l':List Value} {k off ln a b c:Nat}:R k=some (b,c)→VR R l l'→VR R (.sl k off ln false a::l) (.slice (some ⟨b,off,none⟩) ln (c-a)::l')
 | mn {l:List CV} {l':List Value}:VR R l l'→VR R (.mn::l) (.map none::l')
 | m {l:List CV} {l':List Value} {k b c:Nat}:R k=some (b,c)→VR R l l'→VR R (.m k::l) (.map (some b)::l')
 | cn {l:List CV} {l':List Value}:VR R l l'→VR R (.cn::l) (.chan none::l')
 | c {l:List CV} {l':List Value} {k b c:Nat}:R k=some (b,c)→VR R l l'→VR R (.c k::l) (.chan (some b)::l')
 | fn {l:List CV} {l':List Value}:VR R l l'→VR R (.fn::l) (.nilFunc::l')
 | f {l xs ys:List CV} {l' xs' ys':List Value} (g:Nat):VR R xs xs'→VR R ys ys'→VR R l l'→VR R (.f g xs ys::l) (.func (.func g) xs'.toArray ys'.toArray::l')
 | y {l:List CV} {l':List Value} {k b c:Nat}:R k=some (b,c)→VR R l l'→VR R (.y k::l) (.func (.yield b) #[] #[]::l')
 | n {l:List CV} {l':List Value}:VR R l l'→VR R (.n::l) (.nilIface::l')
 | a {l:List CV} {l':List Value} {v:CV} {v':Value} (t:Nat):VR R [v] [v']→VR R l l'→VR R (.a t v::l) (.iface t v'::l')
 | g {l xs:List CV} {l' xs':List Value}:VR R xs xs'→VR R l l'→VR R (.g xs::l) (.agg xs'.toArray::l')
 | t {l xs:List CV} {l' xs':List Value}:VR R xs xs'→VR R l l'→VR R (.t xs::l) (.tuple xs'.toArray::l')
abbrev V1(R:XR)(v:CV)(v':Value):Prop:=VR R [v] [v']
theorem VR.cons_iff{R v v' l l'}:VR R (v::l) (v'::l')↔V1 R v v'∧VR R l l':=by
 constructor
 ·intro h
  cases h with
  | bad _ h=>exact⟨.bad _ .nil,h⟩
  | b _ h=>exact⟨.b _ .nil,h⟩
  | i _ _ h=>exact⟨.i _ _ .nil,h⟩
  | s _ h=>exact⟨.s _ .nil,h⟩
  | pn h=>exact⟨.pn .nil,h⟩
  | p h1 h=>exact⟨.p h1 .nil,h⟩
  | sn h=>exact⟨.sn .nil,h⟩
  | slK h1 h=>exact⟨.slK h1 .nil,h⟩
  | slU h1 h=>exact⟨.slU h1 .nil,h⟩
  | mn h=>exact⟨.mn .nil,h⟩
  | m h1 h=>exact⟨.m h1 .nil,h⟩
  | cn h=>exact⟨.cn .nil,h⟩
  | c h1 h=>exact⟨.c h1 .nil,h⟩
  | fn h=>exact⟨.fn .nil,h⟩
  | f g h1 h2 h=>exact⟨.f g h1 h2 .nil,h⟩
  | y h1 h=>exact⟨.y h1 .nil,h⟩
  | n h=>exact⟨.n .nil,h⟩
  | a t h1 h=>exact⟨.a t h1 .nil,h⟩
  | g h1 h=>exact⟨.g h1 .nil,h⟩
  | t h1 h=>exact⟨.t h1 .nil,h⟩
 ·rintro⟨h,h'⟩
  cases h with
  | bad _ _=>exact .bad _ h'
  | b _ _=>exact .b _ h'
  | i _ _ _=>exact .i _ _ h'
  | s _ _=>exact .s _ h'
  | pn _=>exact .pn h'
  | p h1 _=>exact .p h1 h'
  | sn _=>exact .sn h'
  | slK h1 _=>exact .slK h1 h'
  | slU h1 _=>exact .slU h1 h'
  | mn _=>exact .mn h'
  | m h1 _=>exact .m h1 h'
  | cn _=>exact .cn h'
  | c h1 _=>exact .c h1 h'
  | fn _=>exact .fn h'
  | f g h1 h2 _=>exact .f g h1 h2 h'
  | y h1 _=>exact .y h1 h'
  | n _=>exact .n h'
  | a t h1 _=>exact .a t h1 h'
  | g h1 _=>exact .g h1 h'
  | t h1 _=>exact .t h1 h'
theorem VR.len{R:XR}:∀{l:List CV} {l':List Value},VR R l l'→l.length=l'.length
 | [],[],_=>rfl
 | v::l,v'::l',h=>by rw[lZ3,lZ3,(VR.cons_iff.1 h).2.len]
 | [],_::_,h=>by cases h
 | _::_,[],h=>by cases h
theorem VR.mono{R R'}(hR:XR.le R R'){l l'}(h:VR R l l'):VR R' l l':=by
 induction h with
 | nil=>exact .nil
 | bad _ _ ih=>exact .bad _ ih
 | b _ _ ih=>exact .b _ ih
 | i _ _ _ ih=>exact .i _ _ ih
 | s _ _ ih=>exact .s _ ih
 | pn _ ih=>exact .pn ih
 | p h _ ih=>exact .p (hR _ _ h) ih
 | sn _ ih=>exact .sn ih
 | slK h _ ih=>exact .slK (hR _ _ h) ih
 | slU h _ ih=>exact .slU (hR _ _ h) ih
 | mn _ ih=>exact .mn ih
 | m h _ ih=>exact .m (hR _ _ h) ih
 | cn _ ih=>exact .cn ih
 | c h _ ih=>exact .c (hR _ _ h) ih
 | fn _ ih=>exact .fn ih
 | f g _ _ _ i1 i2 ih=>exact .f g i1 i2 ih
 | y h _ ih=>exact .y (hR _ _ h) ih
 | n _ ih=>exact .n ih
 | a t _ _ i1 ih=>exact .a t i1 ih
 | g _ _ i1 ih=>exact .g i1 ih
 | t _ _ i1 ih=>exact .t i1 ih
theorem VR.app{R:XR}:∀{l k:List CV} {l' k':List Value},VR R l l'→VR R k k'→VR R (l++k) (l'++k')
 | [],_,[],_,_,h=>h
 | v::l,_,v'::l',_,h,h'=>VR.cons_iff.2 ⟨(VR.cons_iff.1 h).1,(VR.cons_iff.1 h).2.app h'⟩
 | [],_,_::_,_,h,_=>by cases h
 | _::_,_,[],_,h,_=>by cases h
theorem VR.drop{R:XR}:∀(d:Nat) {l:List CV} {l':List Value},VR R l l'→VR R (l.drop d) (l'.drop d)
 | 0,_,_,h=>h
 | d+1,[],[],_=>.nil
 | d+1,v::l,v'::l',h=>(VR.cons_iff.1 h).2.drop d
 | _+1,[],_::_,h=>by cases h
 | _+1,_::_,[],h=>by cases h
theorem VR.take{R:XR}:∀(d:Nat) {l:List CV} {l':List Value},VR R l l'→VR R (l.take d) (l'.take d)
 | 0,_,_,h=>.nil
 | d+1,[],[],_=>.nil
 | d+1,v::l,v'::l',h=>VR.cons_iff.2 ⟨(VR.cons_iff.1 h).1,(VR.cons_iff.1 h).2.take d⟩
 | _+1,[],_::_,h=>by cases h
 | _+1,_::_,[],h=>by cases h
theorem VR.at{R:XR}:∀{d:Nat} {l:List CV} {l':List Value} {v:CV},VR R l l'→l[d]?=some v→∃v',l'[d]?=some v'∧V1 R v v'
 | 0,v::l,v'::l',_,h,e=>by cases e;exact⟨v',rfl,(VR.cons_iff.1 h).1⟩
 | d+1,v::l,v'::l',_,h,e=>by
  rw[Aem]at e
  obtain⟨w,h1,h2⟩:=(VR.cons_iff.1 h).2.at e
  exact⟨w,by rw[Aem];exact h1,h2⟩
 | _,[],_,_,_,e=>by cases e
 | _,_::_,[],_,h,_=>by cases h
/-- A constant's value stands for it. -/
theorem Bdf(R:XR)(v:Value):V1 R (xOf0 v) v:=by
 unfold xOf0
 split
 ·exact .b _ .nil
 ·exact .i _ _ .nil
 ·rename_i x
  have:x=⟨x.data.toList.toArray⟩:=by simp
  exact this ▸ VR.s _ .nil
 ·exact .pn .nil
 ·exact .sn .nil
 ·exact .mn .nil
 ·exact .cn .nil
 ·exact .fn .nil
 ·exact .n .nil
 ·rename_i g xs ys
  split
  ·rename_i h1 h2
   have a:xs=([]:List Value).toArray:=by rw[←h1]
   have c:ys=([]:List Value).toArray:=by rw[←h2]
   rw[a,c]
   exact .f g .nil .nil .nil
  ·exact .bad _ .nil
 ·exact .bad _ .nil
theorem Bqx(R:XR)(v:Value):V1 R (xOf1 v) v:=by
 unfold xOf1
 split
 ·exact .a _ (Bdf R _) .nil
 ·exact Bdf R v
theorem Blm(R:XR):∀(l:List Value),VR R (l.map xOf1) l
 | []=>.nil
 | v::l=>VR.cons_iff.2 ⟨Bqx R v,Blm R l⟩
theorem vOf(R:XR)(v:Value):V1 R (xOfV v) v:=by
 unfold xOfV
 split
 ·rename_i l
  have:=VR.g (Blm R l.toList) (VR.nil (R:=R))
  rwa[Alu]at this
 ·rename_i l
  have:=VR.t (Blm R l.toList) (VR.nil (R:=R))
  rwa[Alu]at this
 ·exact Bqx R v
theorem V1.cells{R v v' l}(h:V1 R v v')(hl:v.cells=some l):VR R l v'.cells.toList:=by
 cases h with
 | bad=>cases hl
 | g h1 _=>cases hl;simpa[Value.cells]using h1
 | b=>cases hl;exact .b _ .nil
 | i=>cases hl;exact .i _ _ .nil
 | s=>cases hl;exact .s _ .nil
 | pn=>cases hl;exact .pn .nil
 | p h1=>cases hl;exact .p h1 .nil
 | sn=>cases hl;exact .sn .nil
 | slK h1=>cases hl;exact .slK h1 .nil
 | slU h1=>cases hl;exact .slU h1 .nil
 | mn=>cases hl;exact .mn .nil
 | m h1=>cases hl;exact .m h1 .nil
 | cn=>cases hl;exact .cn .nil
 | c h1=>cases hl;exact .c h1 .nil
 | fn=>cases hl;exact .fn .nil
 | f g h1 h2=>cases hl;exact .f g h1 h2 .nil
 | y h1=>cases hl;exact .y h1 .nil
 | n=>cases hl;exact .n .nil
 | a t h1=>cases hl;exact .a t h1 .nil
 | t h1=>cases hl;exact .t h1 .nil
theorem Bbd{a l}(h:xAllC (a::l)=true):a.isCell=true∧xAllC l=true:=by
 have h':(match a.isCell with|true=>xAllC l|false=>false)=true:=h
 cases ha:a.isCell with
 | true=>rw[ha]at h';exact⟨rfl,h'⟩
 | false=>rw[ha]at h';cases h'
theorem V1.single{R v v'}(h:V1 R v v')(hc:v.isCell=true):single v'=true:=by
 cases h<;>first|rfl|(simp[CV.isCell]at hc)
theorem VR.singles{R:XR}:∀{l:List CV} {l':List Value},VR R l l'→xAllC l=true→∀x∈l',single x=true
 | [],[],_,_,x,hx=>by cases hx
 | v::l,v'::l',h,hc,x,hx=>by
  obtain⟨h1,h2⟩:=VR.cons_iff.1 h
  obtain⟨a,b⟩:=Bbd hc
  rcases Nc.1 hx with rfl|hx
  ·exact h1.single a
  ·exact h2.singles b x hx
 | [],_::_,h,_,_,_=>by cases h
 | _::_,[],h,_,_,_=>by cases h
end
section
open Go
def EnvR(R:XR)(e:Tr CV)(e':Env):Prop:=∀t v,e.get t=some v→V1 R v (e' t)
theorem EnvR.mono{R R' e e'}(h:EnvR R e e')(hR:XR.le R R'):EnvR R' e e':=fun t v ht=>(h t v ht).mono hR
theorem EnvR.set{R e e'}(h:EnvR R e e'){d v v'}(hv:V1 R v v'):EnvR R (e.set d v) (upd e' d v'):=fun t w ht=>by
 rw[Tr.get_set]at ht
 unfold upd
 by_cases hd:t=d
 ·rw[if_pos hd]at ht ⊢;cases ht;exact hv
 ·rw[if_neg hd]at ht ⊢;exact h t w ht
def stB:Nat→LoopState
 | 0=>.ready
 | 1=>.busy
 | 2=>.done
 | _=>.exhausted
def Bdo(n:Nat)(fz:Nat×Nat):Prop:=∀i,i<n→(fz.1≤i&&i<fz.2)=false
/-- What is held,and what it stands for. -/
inductive ObjR(R:XR)(c:Nat):CO→Res→Prop
 | cells {l:List CV} {l':List Value} {t:TypeId} {fz:Nat×Nat}:VR R l l'→Bdo l'.length fz→ObjR R c (.cells l) (.obj (.cells l'.toArray t fz))
 | grow {n:Nat} {l:List CV} {l' rest:List Value} {t:TypeId} {fz:Nat×Nat}:VR R l l'→l'.length+rest.length=c*n→0<n→Bdo (l'.length+rest.length) fz→ObjR R c (.grow n l) (.obj (.cells (l'++rest).toArray t fz))
 | map {es:List (CV×CV)} {en:List MapEntry} {ck:Nat}:VR R (es.map Prod.fst) (en.map MapEntry.key)→VR R (es.map Prod.snd) (en.map MapEntry.val)→ObjR R c (.map es) (.obj (.map en.toArray ck))
 | loop {busy n:Nat} {pd:Option Code} {env:Tr CV} {ps:List Tmp} {as_ body:Code} {dk b c':Nat} {L:Loop} {e':Env}:L.state=stB busy→L.pending=pd→EnvOf n L.tmps e'→EnvR R env e'→L.params=ps.toArray→L.assign=as_→L.body=body →
   R dk=some (b,c')→L.defers=b→ObjR R c (.loop busy pd n env ps as_ body dk) (.obj (.loop L))
 | defd:ObjR R c .defd (.obj (.deferred (some [])))
 | chan:ObjR R c .chan .chan
 | rcv {vs:List CV} {vs':List Value}:VR R vs vs'→ObjR R c (.rcv vs) (.recv vs')
theorem ObjR.mono{R R' c o r}(h:ObjR R c o r)(hR:XR.le R R'):ObjR R' c o r:=by
 cases h with
 | cells h1 h2=>exact .cells (h1.mono hR) h2
 | grow h1 h2 h3 h4=>exact .grow (h1.mono hR) h2 h3 h4
 | map h1 h2=>exact .map (h1.mono hR) (h2.mono hR)
 | loop h1 h2 h3 h4 h5 h6 h7 h8 h9=>exact .loop h1 h2 h3 (h4.mono hR) h5 h6 h7 (hR _ _ h8) h9
 | defd=>exact .defd
 | chan=>exact .chan
 | rcv h=>exact .rcv (h.mono hR)
/-- The same,whatever of it is frozen. -/
def Bwp:Obj→Nat×Nat→Obj
 | .cells c t _,f=>.cells c t f
 | o,_=>o
def ObjO(R:XR)(c:Nat)(o:CO)(x:Obj):Prop:=∃f,ObjR R c o (.obj (Bwp x f))
theorem ObjO.mono{R R' c o x}(h:ObjO R c o x)(hR:XR.le R R'):ObjO R' c o x:=let ⟨f,h⟩:=h;⟨f,h.mono hR⟩
theorem ObjO.of{R c o x}(h:ObjR R c o (.obj x)):ObjO R c o x:=by
 cases x with
 | cells cs t f=>exact⟨f,h⟩
 | _=>exact⟨(0,0),h⟩
/-- What is held beside σ₀ is just what the memory says;some blocks are forgotten. -/
structure MemR(R:XR)(m:Mem)(ρ:Ro)(σ σ₀:Own)(L:List (Nat×Nat×Res))(G:Own):Prop where
 perm:σ.Perm (L.map Prod.snd++(G++σ₀))
 nd:(L.map Prod.fst).Nodup
 own:∀p∈L,∃c o,R p.1=some (p.2.1,c)∧m.M.get p.1=some (.own o)∧ObjR R c o p.2.2
 all:∀k o,m.M.get k=some (.own o)→o ≠ .dead→∃q,(k,q)∈L
 ro:∀k o,m.M.get k=some (.ro o)→∃b c x,R k=some (b,c)∧ρ b=some x∧ObjO R c o x
 gar:∀p∈G,∃o,p.2=Res.obj o
 lt:∀k q,R k=some q→k<m.nx
 glob:∀k,k<16→R k=some (k,0)
def MemX(R:XR)(m:Mem)(ρ:Ro)(σ σ₀:Own):Prop:=∃L G,MemR R m ρ σ σ₀ L G
section
variable{R:XR}{m:Mem}{ρ:Ro}{σ σ₀:Own}{L:List (Nat×Nat×Res)}{G:Own}
theorem Bop{σ τ:Own}{x}(h:σ.Perm τ)(hx:x∈τ):∃i:Nat,σ[i]?=some x:=Bew (h.mem_iff.2 hx)
theorem Amm{x x'}:∀{i:Nat} {σ τ:Own},σ.Perm (x::τ)→σ[i]?=some x→(σ.set i x').Perm (x'::τ):=fun {i σ τ} h hi=>by
 have hlt:i<σ.length:=by
  rcases Tc i σ.length with h'|h'
  ·exact h'
  ·rw[Yd h']at hi;cases hi
 have b:(σ.set i x').Perm (x'::σ.eraseIdx i):=by
  clear h hi
  induction σ generalizing i with
  | nil=>cases hlt
  | cons a σ ih =>
   cases i with
   | zero=>exact .refl _
   | succ i=>exact((ih (by simpa using hlt)).cons a).trans (.swap ..)
 have c:σ.Perm (x::σ.eraseIdx i):=by
  clear h b
  induction σ generalizing i with
  | nil=>cases hlt
  | cons a σ ih =>
   cases i with
   | zero=>cases hi;exact .refl _
   | succ i =>
    rw[Aem]at hi
    exact((ih hi (by simpa using hlt)).cons a).trans (.swap ..)
 exact b.trans (.cons _ (c.symm.trans h).cons_inv)
theorem Wa{L:List (Nat×Nat×Res)}{p:Nat×Nat×Res}(h:p∈L):∃A B,L=A++p::B:=List.append_of_mem h
/-- What is owned under a number. -/
theorem MemR.at(h:MemR R m ρ σ σ₀ L G){k o}(hk:m.M.get k=some (.own o))(hd:o ≠ .dead):
  ∃(b c:Nat) (r:Res) (i:Nat),R k=some (b,c)∧σ[i]?=some (b,r)∧ObjR R c o r∧(k,b,r)∈L:=by
 obtain⟨⟨b,r⟩,hq⟩:=h.all k o hk hd
 obtain⟨c,o',d,a,e⟩:=h.own _ hq
 simp only at d a e
 rw[hk]at a;cases a
 obtain⟨i,hi⟩:=Bop h.perm (Uf _ (Aai (f:=Prod.snd) hq))
 exact⟨b,c,r,i,d,hi,e,hq⟩
theorem Pe(m:Mem)(k:Nat)(o:CO)(j:Nat):(m.put k o).M.get j=if j=k then some (.own o) else m.M.get j:=Tr.get_set ..
theorem Tx(m:Mem)(o:CO)(j:Nat):(m.add o).M.get j=if j=m.nx then some (.own o) else m.M.get j:=Tr.get_set ..
/-- It is given another content. -/
theorem MemR.put(h:MemR R m ρ σ σ₀ L G){k b c i r r' o'}(hL:(k,b,r)∈L)(hR:R k=some (b,c))(hi:σ[i]?=some (b,r))(ho:ObjR R c o' r'):MemX R (m.put k o') ρ (σ.set i (b,r')) σ₀:=by
 obtain⟨A,B,rfl⟩:=Wa hL
 have nd:=h.nd
 simp only[Ql,Qc]at nd
 have hAB:∀p∈A++B,p.1≠k:=fun p hp e=>by
  rw[Apn]at nd
  obtain⟨u,n,t⟩:=nd
  rcases Of.1 hp with hp|hp
  ·exact t p.1 (Aai (f:=Prod.fst) hp) k mC e
  ·exact(Aen.1 n).1 (e ▸ Aai (f:=Prod.fst) hp)
 have mid:∀{x:Nat×Nat×Res} {p},p∈A++x::B→p=x∨p∈A++B:=fun {x p} hp=>by
  rcases Of.1 hp with hp|hp
  ·exact .inr (Uf _ hp)
  ·rcases Nc.1 hp with hp|hp
   ·exact .inl hp
   ·exact .inr (Pz _ hp)
 have dim:∀{x:Nat×Nat×Res} {p},p∈A++B→p∈A++x::B:=fun {x p} hp=>(Of.1 hp).elim (Uf _) fun hp=>Pz _ (lZ7 _ hp)
 refine⟨A++(k,b,r')::B,G,?_,by simpa using h.nd,fun p hp=>?_,fun j o hj hd=>?_,fun j o hj=>?_,h.gar,h.lt,h.glob⟩
 ·have p0:=h.perm
  simp only[Ql,Qc,lZ9,Wj]at p0 ⊢
  exact(Amm (p0.trans Azu) hi).trans List.perm_middle.symm
 ·rcases mid hp with rfl|hp
  ·exact⟨c,o',hR,by rw[Pe,if_pos rfl],ho⟩
  ·obtain⟨a,o1,d,g,l⟩:=h.own p (dim hp)
   exact⟨a,o1,d,by rw[Pe,if_neg (hAB p hp)];exact g,l⟩
 ·rw[Pe]at hj
  by_cases hjk:j=k
  ·subst hjk;exact⟨_,Pz _ mC⟩
  ·rw[if_neg hjk]at hj
   obtain⟨q,hq⟩:=h.all j o hj hd
   rcases mid hq with e|hq
   ·exact absurd (Prod.mk.inj e).1 hjk
   ·exact⟨q,dim hq⟩
 ·rw[Pe]at hj
  by_cases hjk:j=k
  ·rw[if_pos hjk]at hj;cases hj
  ·rw[if_neg hjk]at hj;exact h.ro j o hj
/-- It is forgotten. -/
theorem MemR.kill(h:MemR R m ρ σ σ₀ L G){k b o}(hL:(k,b,Res.obj o)∈L):MemX R (m.put k .dead) ρ σ σ₀:=by
 obtain⟨A,B,rfl⟩:=Wa hL
 have nd:=h.nd
 simp only[Ql,Qc]at nd
 have hAB:∀p∈A++B,p.1≠k:=fun p hp e=>by
  rw[Apn]at nd
  obtain⟨n,i,l⟩:=nd
  rcases Of.1 hp with hp|hp
  ·exact l p.1 (Aai (f:=Prod.fst) hp) k mC e
  ·exact(Aen.1 i).1 (e ▸ Aai (f:=Prod.fst) hp)
 have dim:∀{p},p∈A++B→p∈A++(k,b,Res.obj o)::B:=fun {p} hp=>(Of.1 hp).elim (Uf _) fun hp=>Pz _ (lZ7 _ hp)
 refine⟨A++B,(b,.obj o)::G,?_,?_,fun p hp=>?_,fun j oj hj hd=>?_,fun j oj hj=>?_,fun p hp=>?_,h.lt,h.glob⟩
 ·have p0:=h.perm
  simp only[Ql,Qc,lZ9,Wj]at p0 ⊢
  refine p0.trans (List.Perm.append_left _ ?_)
  exact List.perm_middle.symm
 ·rw[Ql]
  have:(A.map Prod.fst++B.map Prod.fst).Sublist (A.map Prod.fst++k::B.map Prod.fst):=List.Sublist.append_left (Bjm ..) _
  exact this.nodup nd
 ·obtain⟨a,o1,c,d,g⟩:=h.own p (dim hp)
  exact⟨a,o1,c,by rw[Pe,if_neg (hAB p hp)];exact d,g⟩
 ·rw[Pe]at hj
  by_cases hjk:j=k
  ·rw[if_pos hjk]at hj;cases hj;exact absurd rfl hd
  ·rw[if_neg hjk]at hj
   obtain⟨q,hq⟩:=h.all j oj hj hd
   rcases Of.1 hq with hq|hq
   ·exact⟨q,Uf _ hq⟩
   ·rcases Nc.1 hq with e|hq
    ·exact absurd (Prod.mk.inj e).1 hjk
    ·exact⟨q,Pz _ hq⟩
 ·rw[Pe]at hj
  by_cases hjk:j=k
  ·rw[if_pos hjk]at hj;cases hj
  ·rw[if_neg hjk]at hj;exact h.ro j oj hj
 ·rcases Nc.1 hp with rfl|hp
  ·exact⟨o,rfl⟩
  ·exact h.gar p hp
def XR.add(R:XR)(k:Nat)(q:Nat×Nat):XR:=fun j=>if j=k then some q else R j
theorem XR.add_same{R:XR}{k q}:R.add k q k=some q:=if_pos rfl
theorem MemR.fresh(h:MemR R m ρ σ σ₀ L G)(q:Nat×Nat):XR.le R (R.add m.nx q):=fun j q' hj=>by
 unfold XR.add
 rw[if_neg (Aqt (h.lt j q' hj))];exact hj
/-- A new block. -/
theorem MemR.add(h:MemR R m ρ σ σ₀ L G){b c r o}(ho:ObjR (R.add m.nx (b,c)) c o r):MemX (R.add m.nx (b,c)) (m.add o) ρ ((b,r)::σ) σ₀:=by
 have hle:=h.fresh (b,c)
 have hlt:∀p∈L,p.1<m.nx:=fun p hp=>by
  obtain⟨d,o1,a,_⟩:=h.own p hp
  exact h.lt _ _ a
 refine⟨(m.nx,b,r)::L,G,h.perm.cons _,Aen.2 ⟨fun hm=>?_,h.nd⟩,fun p hp=>?_,fun j oj hj hd=>?_,fun j oj hj=>?_,h.gar,fun j q hj=>?_,fun j hj=>hle _ _ (h.glob j hj)⟩
 ·obtain⟨p,hp,e⟩:=Sz.1 hm
  exact absurd (hlt p hp) (by omega)
 ·rcases Nc.1 hp with rfl|hp
  ·exact⟨c,o,XR.add_same,by rw[Tx,if_pos rfl],ho⟩
  ·obtain⟨d,o1,a,f,g⟩:=h.own p hp
   exact⟨d,o1,hle _ _ a,by rw[Tx,if_neg (Aqt (hlt p hp))];exact f,g.mono hle⟩
 ·rw[Tx]at hj
  by_cases hjk:j=m.nx
  ·subst hjk;exact⟨_,Aiq ..⟩
  ·rw[if_neg hjk]at hj
   obtain⟨q,hq⟩:=h.all j oj hj hd
   exact⟨q,lZ7 _ hq⟩
 ·rw[Tx]at hj
  by_cases hjk:j=m.nx
  ·rw[if_pos hjk]at hj;cases hj
  ·rw[if_neg hjk]at hj
   obtain⟨i,d,k,a,f,g⟩:=h.ro j oj hj
   exact⟨i,d,k,hle _ _ a,f,g.mono hle⟩
 ·unfold XR.add at hj
  by_cases hjk:j=m.nx
  ·subst hjk;exact Bcg _
  ·rw[if_neg hjk]at hj;exact Bjd (h.lt j q hj)
/-- It goes on under another number. -/
theorem MemR.move(h:MemR R m ρ σ σ₀ L G){k b c i r r' o'}(hL:(k,b,r)∈L)(hi:σ[i]?=some (b,r))(ho:ObjR (R.add m.nx (b,c)) c o' r'):
  MemX (R.add m.nx (b,c)) ((m.put k .dead).add o') ρ (σ.set i (b,r')) σ₀:=by
 have hle:=h.fresh (b,c)
 obtain⟨A,B,rfl⟩:=Wa hL
 have nd:=h.nd
 simp only[Ql,Qc]at nd
 have hAB:∀p∈A++B,p.1≠k:=fun p hp e=>by
  rw[Apn]at nd
  obtain⟨w,t,u⟩:=nd
  rcases Of.1 hp with hp|hp
  ·exact u p.1 (Aai (f:=Prod.fst) hp) k mC e
  ·exact(Aen.1 t).1 (e ▸ Aai (f:=Prod.fst) hp)
 have dim:∀{p},p∈A++B→p∈A++(k,b,r)::B:=fun {p} hp=>(Of.1 hp).elim (Uf _) fun hp=>Pz _ (lZ7 _ hp)
 have hlt:∀p∈A++(k,b,r)::B,p.1<m.nx:=fun p hp=>by
  obtain⟨d,o1,a,_⟩:=h.own p hp
  exact h.lt _ _ a
 have hk:k<m.nx:=hlt (k,b,r) hL
 have get:∀j,((m.put k .dead).add o').M.get j=if j=m.nx then some (.own o') else if j=k then some (.own .dead) else m.M.get j:=fun j=>by
  rw[Tx,Pe];rfl
 refine⟨(m.nx,b,r')::(A++B),G,?_,Aen.2 ⟨fun hm=>?_,?_⟩,fun p hp=>?_,fun j oj hj hd=>?_,fun j oj hj=>?_,h.gar,fun j q hj=>?_,fun j hj=>hle _ _ (h.glob j hj)⟩
 ·have p0:=h.perm
  simp only[Ql,Qc,lZ9,Wj]at p0 ⊢
  exact Amm (p0.trans Azu) hi
 ·obtain⟨p,hp,e⟩:=Sz.1 hm
  exact absurd (hlt p (dim hp)) (by omega)
 ·rw[Ql]
  have:(A.map Prod.fst++B.map Prod.fst).Sublist (A.map Prod.fst++k::B.map Prod.fst):=List.Sublist.append_left (Bjm ..) _
  exact this.nodup nd
 ·rcases Nc.1 hp with rfl|hp
  ·exact⟨c,o',XR.add_same,by rw[get,if_pos rfl],ho⟩
  ·obtain⟨d,o1,a,g,l⟩:=h.own p (dim hp)
   exact⟨d,o1,hle _ _ a,by rw[get,if_neg (Aqt (hlt p (dim hp))),if_neg (hAB p hp)];exact g,l.mono hle⟩
 ·rw[get]at hj
  by_cases hjk:j=m.nx
  ·subst hjk;exact⟨_,Aiq ..⟩
  ·rw[if_neg hjk]at hj
   by_cases hj2:j=k
   ·rw[if_pos hj2]at hj;cases hj;exact absurd rfl hd
   ·rw[if_neg hj2]at hj
    obtain⟨q,hq⟩:=h.all j oj hj hd
    rcases Of.1 hq with hq|hq
    ·exact⟨q,lZ7 _ (Uf _ hq)⟩
    ·rcases Nc.1 hq with e|hq
     ·exact absurd (Prod.mk.inj e).1 hj2
     ·exact⟨q,lZ7 _ (Pz _ hq)⟩
 ·rw[get]at hj
  by_cases hjk:j=m.nx
  ·rw[if_pos hjk]at hj;cases hj
  ·rw[if_neg hjk]at hj
   by_cases hj2:j=k
   ·rw[if_pos hj2]at hj;cases hj
   ·rw[if_neg hj2]at hj
    obtain⟨n,d,v,a,g,l⟩:=h.ro j oj hj
    exact⟨n,d,v,hle _ _ a,g,l.mono hle⟩
 ·unfold XR.add at hj
  by_cases hjk:j=m.nx
  ·subst hjk;exact Bcg _
  ·rw[if_neg hjk]at hj;exact Bjd (h.lt j q hj)
/-- A row that may be read. -/
theorem MemR.row(h:MemR R m ρ σ σ₀ L G){k l}(hk:m.row k=some l):
  ∃b c l' rest t fz,R k=some (b,c)∧Has ρ σ b (.cells (l'++rest).toArray t fz)∧VR R l l':=by
 have key:∀{o:CO} {c:Nat} {r:Res},xRowO o=some l→ObjR R c o r→∃l' rest t fz,r = .obj (.cells (l'++rest).toArray t fz)∧VR R l l'∧Bdo (l'.length+rest.length) fz:=by
  intro o c r ho hr
  cases hr with
  | @cells _ l' t fz a d=>cases ho;exact⟨l',[],t,fz,by simp,a,by simpa using d⟩
  | grow a d g n=>cases ho;exact⟨_,_,_,_,rfl,a,n⟩
  | map=>cases ho
  | loop=>cases ho
  | defd=>cases ho
  | chan=>cases ho
  | rcv=>cases ho
 unfold Mem.row at hk
 cases hg:m.M.get k with
 | none=>rw[hg]at hk;cases hk
 | some x =>
  rw[hg]at hk
  cases x with
  | own o =>
   have hd:o ≠ .dead:=fun e=>by subst e;cases hk
   obtain⟨b,c,r,i,a,d,g,n⟩:=h.at hg hd
   obtain⟨l',rest,t,fz,rfl,j,p⟩:=key hk g
   exact⟨b,c,l',rest,t,fz,a,.inr (lZ8 d),j⟩
  | ro o =>
   obtain⟨b,c,x,a,d,f,g⟩:=h.ro k o hg
   obtain⟨l',rest,t,fz,e,j,p⟩:=key hk g
   cases x with
   | cells cs t' f' =>
    have e':Res.obj (.cells cs t' f) = .obj (.cells (l'++rest).toArray t fz):=e
    cases e'
    exact⟨b,c,l',rest,_,_,a,.inl d,j⟩
   | _=>cases e
end
end
section
open Go
def Adr(R:XR):Prop:=∀k,k<16→R k=some (k,0)
theorem MemX.globR{R m ρ σ σ₀}(h:MemX R m ρ σ σ₀):Adr R:=let ⟨_,_,h⟩:=h;h.glob
theorem Hd{R e e'}(h:EnvR R e e')(hg:Adr R)(x:Operand):V1 R ((rdK x).run e) (Af e' x):=by
 cases x with
 | tmp t =>
  show V1 R (match e.get t with|some v=>v|none=>.bad) (e' t)
  cases ht:e.get t with
  | some v=>exact h t v ht
  | none=>exact .bad _ .nil
 | const v=>exact vOf R v
 | global g =>
  have a:(rdK (.global g)).run e=match Nat.ble (Nat.succ g) 16 with|true=>.p g 0|false=>.bad:=by
   simp only[rdK];cases Nat.ble (Nat.succ g) 16<;>rfl
  rw[a]
  split
  ·rename_i hb;exact .p (hg g (Qz hb)) .nil
  ·exact .bad _ .nil
 | func f=>exact .f f .nil .nil .nil
theorem Afc{R:XR}{e:Tr CV}{e':Env}(h:EnvR R e e')(hg:Adr R):∀(l:List Operand),VR R ((rdsK l).run e) (l.map (Af e'))
 | []=>.nil
 | x::l=>VR.cons_iff.2 ⟨Hd h hg x,Afc h hg l⟩
/-- What an operation may come to. -/
def NxV(nx:Next)(v:Value):Prop:=nx = .value v∨(nx = .skip∧v=undef)
/-- What was there before,but for what is listed. -/
structure LogOk(m m':Mem):Prop where
 nx:m.nx≤m'.nx
 ex:∃w,m'.log=w++m.log∧m'.ln=m.ln+w.length∧∀k,k<m.nx→k∉w→m'.M.get k=m.M.get k
 outs:m'.outs=m.outs
theorem LogOk.refl(m:Mem):LogOk m m:=⟨Lb _,⟨[],rfl,rfl,fun _ _ _=>rfl⟩,rfl⟩
theorem LogOk.put(m:Mem)(k:Nat)(o:CO):LogOk m (m.put k o):=⟨Lb _,⟨[k],rfl,rfl,fun j _ hn=>by
 rw[Pe,if_neg (fun e=>hn (by rw[e];exact Aiq ..))]⟩,rfl⟩
theorem LogOk.add(m:Mem)(o:CO):LogOk m (m.add o):=⟨Nat.le_succ _,⟨[],rfl,rfl,fun j hj _=>by rw[Tx,if_neg (Aqt hj)]⟩,rfl⟩
theorem LogOk.trans{m m' m''}(h:LogOk m m')(h':LogOk m' m''):LogOk m m'':=by
 obtain⟨w,a,b,c⟩:=h.ex
 obtain⟨w',d,e,f⟩:=h'.ex
 refine⟨Tl h.nx h'.nx,⟨w'++w,by rw[d,a,lZ9],by rw[e,b,lZ0];omega,fun k hk hn=>?_⟩,h'.outs.trans h.outs⟩
 rw[f k (Adf hk h.nx) (fun hm=>hn (Uf _ hm)),c k hk (fun hm=>hn (Pz _ hm))]
/-- A value,and nothing else happens. -/
def Apv(P:Program)(o:Op)(R:XR)(e':Env)(x:CV):Prop :=
 ∃v,V1 R x v∧∀ρ σ dd ty pos af g,wpS P ρ (execOp (Af e') ⟨dd,o,ty,pos,af,g⟩) σ (fun nx σ'=>nx = .value v∧σ'=σ)
/-- A value;memory changes. -/
def Bgn(P:Program)(o:Op)(R:XR)(e':Env)(m:Mem)(x:CV)(m':Mem):Prop :=
 LogOk m m'∧(xMild o=true→m'.nx≠m.nx)∧∀ρ σ σ₀ dd ty pos af g,MemX R m ρ σ σ₀→wpS P ρ (execOp (Af e') ⟨dd,o,ty,pos,af,g⟩) σ (fun nx σ'=>∃R' v,XR.le R R'∧NxV nx v∧V1 R' x v∧MemX R' m' ρ σ' σ₀)
theorem Ye{P o R e' x v}(s:Sem Value)(hs:∀dd ty pos af g,execOp (Af e') ⟨dd,o,ty,pos,af,g⟩=s.bind fun v=>Sem.pure (Next.value v))(hv:V1 R x v)(h:∀ρ σ,wpS P ρ s σ (fun w σ'=>w=v∧σ'=σ)):Apv P o R e' x:=⟨v,hv,fun ρ σ dd ty pos af g=>by
 rw[hs,Ad]
 exact Eu (by rintro w σ' ⟨rfl,rfl⟩;exact⟨rfl,rfl⟩) _ _ (h ρ σ)⟩
theorem Aul{P o R e' m x co c ob}(s:Sem Value)(mk:Nat→Value)(hs:∀dd ty pos af g,execOp (Af e') ⟨dd,o,ty,pos,af,g⟩=s.bind fun v=>Sem.pure (Next.value v))(h:∀ρ σ Q,(∀r,Q (mk r) ((r,.obj ob)::σ))→wpS P ρ s σ Q)(ho:∀R',XR.le R R'→ObjR R' c co (.obj ob))(hx:∀R' r,R' m.nx=some (r,c)→V1 R' x (mk r)):Bgn P o R e' m x (m.add co):=by
 refine⟨.add m co,fun _=>Awc _,fun ρ σ σ₀ dd ty pos af g hm=>?_⟩
 obtain⟨L,G,hm⟩:=hm
 rw[hs,Ad]
 refine h ρ σ _ fun r=>?_
 exact⟨R.add m.nx (r,c),mk r,hm.fresh _,.inl rfl,hx _ r XR.add_same,hm.add (ho _ (hm.fresh _))⟩
section
variable{P:Program}{t:TypeId}
theorem Xw{n}(h:xSzT P t=some n):∃i,P.info? t=some i∧i.size=n:=by
 unfold xSzT at h
 cases hi:P.info? t with
 | none=>rw[hi]at h;cases h
 | some i=>rw[hi]at h;cases h;exact⟨i,rfl,rfl⟩
theorem Asn{b}(h:xAggT P t=some b):∃d,P.underlying t=some d∧Qv d=b:=by
 unfold xAggT at h
 cases hd:P.underlying t with
 | none=>rw[hd]at h;cases h
 | some d=>rw[hd]at h;cases h;exact⟨d,rfl,rfl⟩
theorem Xa{z}(h:xZeroT P t=some z):∃v,Fw P t v∧z=xOfV v:=by
 unfold xZeroT at h
 cases hi:P.info? t with
 | none=>rw[hi]at h;cases h
 | some i =>
  rw[hi]at h
  simp only at h
  cases hz:i.zero with
  | none=>rw[hz]at h;cases h
  | some v=>rw[hz]at h;cases h;exact⟨v,⟨i,hi,hz⟩,rfl⟩
end
theorem Abb{k k'}(h:xKind k k'=true):k=k':=by cases k<;>cases k'<;>first|rfl|cases h
theorem Auf(a b:Int):xEqI a b=(a==b):=by
 cases a<;>cases b<;>simp only[xEqI]
 ·rename_i x y
  rw[Azw];simp;omega
 ·rfl
 ·rfl
 ·rename_i x y
  rw[Azw];simp
theorem Abw(a b:Int):xLtI a b=decide (a<b):=by
 cases a<;>cases b<;>simp only[xLtI]
 ·rename_i x y
  rw[Azw];simp[Nat.ble_eq];omega
 ·rename_i x y
  symm;rw[decide_eq_false_iff_not];show ¬((x:Int)<_);omega
 ·rename_i x y
  symm;rw[decide_eq_true_iff];show _<(y:Int);omega
 ·rename_i x y
  rw[Azw];simp[Nat.ble_eq];omega
theorem not_lt(a b:Int):(!decide (b<a))=decide (a≤b):=by
 rw[Azw];simp
end
section
open Go
section
variable{P:Program}{R:XR}{e:Tr CV}{e':Env}{m m':Mem}{x:CV}
/-- A value that is known stands for this one. -/
theorem Bau{v b}(h:V1 R (.b b) v):v = .bool b:=by cases h;rfl
theorem Yk{v k n}(h:V1 R (.i k n) v):v = .int k n:=by cases h;rfl
theorem Axr{v l}(h:V1 R (.s l) v):v = .string ⟨l.toArray⟩:=by cases h;rfl
theorem Bgh{v k off}(h:V1 R (.p k off) v):∃b c,R k=some (b,c)∧v = .pointer (some ⟨b,off,none⟩):=by cases h with|p h1 _=>exact⟨_,_,h1,rfl⟩
theorem Apr{v l}(h:V1 R (.g l) v):∃l',VR R l l'∧v = .agg l'.toArray:=by cases h with|g h1 _=>exact⟨_,h1,rfl⟩
theorem Bwb{v l}(h:V1 R (.t l) v):∃l',VR R l l'∧v = .tuple l'.toArray:=by cases h with|t h1 _=>exact⟨_,h1,rfl⟩
theorem Bwa{v k}(h:V1 R (.m k) v):∃b c,R k=some (b,c)∧v = .map (some b):=by cases h with|m h1 _=>exact⟨_,_,h1,rfl⟩
theorem Bpl{v k}(h:V1 R (.c k) v):∃b c,R k=some (b,c)∧v = .chan (some b):=by cases h with|c h1 _=>exact⟨_,_,h1,rfl⟩
def Brs(kn:Bool)(c d:Nat):Nat:=match kn with
 | true=>c
 | false=>d-c
theorem Axs{v k off ln c kn}(h:V1 R (.sl k off ln kn c) v):∃b d,R k=some (b,d)∧v = .slice (some ⟨b,off,none⟩) ln (Brs kn c d):=by
 cases h with
 | slK h1 _=>exact⟨_,_,h1,rfl⟩
 | slU h1 _=>exact⟨_,_,h1,rfl⟩
/-- What the run says of an operation that yields a value. -/
def Ps(P:Program)(o:Op):Prop:=∀R e e' m x m',EnvR R e e'→Adr R→(opK P o).run e m = .v x m'→(m'=m∧Apv P o R e' x)∨Bgn P o R e' m x m'
theorem Pr{x y m m'}(h:OR.v x m = .v y m'):x=y∧m=m':=by cases h;exact⟨rfl,rfl⟩
theorem Bes(a:Operand):Ps P (.move a):=fun R e e' m x m' he hg h=>by
 obtain⟨rfl,rfl⟩:=Pr h
 exact .inl ⟨rfl,_,Hd he hg a,fun ρ σ dd ty pos af g=>⟨rfl,rfl⟩⟩
theorem Avr(a:Operand):Ps P (.assign a):=fun R e e' m x m' he hg h=>by
 obtain⟨rfl,rfl⟩:=Pr h
 exact .inl ⟨rfl,_,Hd he hg a,fun ρ σ dd ty pos af g=>⟨rfl,rfl⟩⟩
theorem Bet(c a b:Operand):Ps P (.pick c a b):=fun R e e' m x m' he hg h=>by
 have hc:=Hd he hg c
 have h':(match (rdK c).run e with | .b true=>OR.v ((rdK a).run e) m | .b false=>.v ((rdK b).run e) m|_=>.bad) = .v x m':=h
 split at h'
 ·rename_i hb
  rw[hb]at hc
  obtain⟨rfl,rfl⟩:=Pr h'
  refine .inl ⟨rfl,_,Hd he hg a,fun ρ σ dd ty pos af g=>?_⟩
  show wpS P ρ (do pure (Next.value (if ←asBool (Af e' c) then Af e' a else Af e' b)):Sem Next) σ _
  rw[Bau hc];exact⟨rfl,rfl⟩
 ·rename_i hb
  rw[hb]at hc
  obtain⟨rfl,rfl⟩:=Pr h'
  refine .inl ⟨rfl,_,Hd he hg b,fun ρ σ dd ty pos af g=>?_⟩
  show wpS P ρ (do pure (Next.value (if ←asBool (Af e' c) then Af e' a else Af e' b)):Sem Next) σ _
  rw[Bau hc];exact⟨rfl,rfl⟩
 ·cases h'
theorem Bim(t:TypeId)(a:Operand):Ps P (.unOp .not t a):=fun R e e' m x m' he hg h=>by
 have ha:=Hd he hg a
 have h':(match (rdK a).run e with | .b v=>OR.v (.b !v) m|_=>.bad) = .v x m':=h
 split at h'
 ·rename_i v hb
  rw[hb]at ha
  obtain⟨rfl,rfl⟩:=Pr h'
  exact .inl ⟨rfl,Ye (Op.unary .not (Af e' a)) (fun _ _ _ _ _=>rfl) (.b _ .nil) fun ρ σ=>by rw[Bau ha];exact⟨rfl,rfl⟩⟩
 ·cases h'
theorem Apd(a:Operand):Ps P (.nilCheck a):=fun R e e' m x m' he hg h=>by
 have ha:=Hd he hg a
 have h':(match (rdK a).run e with | .p k off=>OR.v (.p k off) m|_=>.bad) = .v x m':=h
 split at h'
 ·rename_i k off hb
  rw[hb]at ha
  obtain⟨rfl,rfl⟩:=Pr h'
  obtain⟨b,c,d,f⟩:=Bgh ha
  refine .inl ⟨rfl,_,.p d .nil,fun ρ σ dd ty pos af g=>?_⟩
  unfold execOp
  simp only[f]
  exact⟨rfl,rfl⟩
 ·cases h'
theorem Amq(he:EnvR R e e')(hg:Adr R)(xs:Array Operand):∃vs:List Value,VR R ((rdsK xs.toList).run e) vs∧xs.map (Af e')=vs.toArray:=by
 refine⟨_,Afc he hg xs.toList,?_⟩
 rw[←List.map_toArray,Alu]
theorem Apc(f:FuncId)(xs ys:Array Operand):Ps P (.makeFunc (.func f) xs ys):=fun R e e' m x m' he hg h=>by
 obtain⟨rfl,rfl⟩:=Pr h
 obtain⟨vs,a,b⟩:=Amq he hg xs
 obtain⟨ws,c,d⟩:=Amq he hg ys
 refine .inl ⟨rfl,_,.f f a c .nil,fun ρ σ dd ty pos af g=>?_⟩
 show wpS P ρ ((Instr.makeFunc (.func f) (xs.map (Af e')) (ys.map (Af e'))).bind fun v=>Sem.pure (Next.value v)) σ _
 rw[b,d];exact⟨rfl,rfl⟩
theorem Ath(a:Operand)(i:Nat):Ps P (.extract a i):=fun R e e' m x m' he hg h=>by
 have ha:=Hd he hg a
 have h':(match (rdK a).run e with | .t l=>xVOf m (xNth i l)|_=>.bad) = .v x m':=h
 split at h'
 ·rename_i l hb
  rw[hb]at ha
  rw[Ajh]at h'
  cases hi:l[i]? with
  | none=>rw[hi]at h';cases h'
  | some w =>
   rw[hi]at h'
   obtain⟨rfl,rfl⟩:=Pr h'
   obtain⟨l',b,c⟩:=Bwb ha
   obtain⟨v,d,f⟩:=b.at hi
   exact .inl ⟨rfl,Ye (Instr.extract (Af e' a) i) (fun _ _ _ _ _=>rfl) f fun ρ σ=>by rw[c];simp only[Instr.extract,Qx,d];exact⟨rfl,rfl⟩⟩
 ·cases h'
theorem Bmg{op t k a b w}(h:binN op k a b=some w):∃v,V1 R w v∧binOp op t (.int k a) (.int k b)=pure v:=by
 cases op<;>simp only[binN,Option.some.injEq]at h<;>first|(cases h;done)|skip
 all_goals subst h
 ·exact⟨_,.i _ _ .nil,by simp only[binOp,ne_eq,not_true,if_false];rfl⟩
 ·exact⟨_,.i _ _ .nil,by simp only[binOp,ne_eq,not_true,if_false];rfl⟩
 ·exact⟨_,.i _ _ .nil,by simp only[binOp,ne_eq,not_true,if_false];rfl⟩
 ·exact⟨_,.i _ _ .nil,by simp only[binOp,ne_eq,not_true,if_false];rfl⟩
 ·exact⟨_,.i _ _ .nil,by simp only[binOp,ne_eq,not_true,if_false];rfl⟩
 ·exact⟨_,.i _ _ .nil,by simp only[binOp,ne_eq,not_true,if_false];rfl⟩
 ·exact⟨_,.b _ .nil,by rw[Auf];simp only[binOp,ne_eq,not_true,if_false];rfl⟩
 ·exact⟨_,.b _ .nil,by rw[Auf];simp only[binOp,ne_eq,not_true,if_false];rfl⟩
 ·exact⟨_,.b _ .nil,by rw[Abw];simp only[binOp,ne_eq,not_true,if_false];rfl⟩
 ·exact⟨_,.b _ .nil,by rw[Abw,not_lt];simp only[binOp,ne_eq,not_true,if_false];rfl⟩
 ·exact⟨_,.b _ .nil,by rw[Abw];simp only[binOp,ne_eq,not_true,if_false];rfl⟩
 ·exact⟨_,.b _ .nil,by rw[Abw,not_lt];simp only[binOp,ne_eq,not_true,if_false];rfl⟩
theorem Bdu(op:BinOp)(k:IntKind)(a b:Int)(w:CV)(h:(binKN op).run k a b=some w):binN op k a b=some w:=by
 cases op<;>first|exact h|cases h
theorem Ayk{op t t' a b w v u z}(ha:Af e' a=u)(hb:Af e' b=z)(hg:eqGuard op t a b u z=pure ())(hv:V1 R w v)(h:binOp op t u z=pure v):Apv P (.binOp op t a b t') R e' w :=
 Ye (do eqGuard op t a b (Af e' a) (Af e' b);binOp op t (Af e' a) (Af e' b)) (fun _ _ _ _ _=>rfl) hv fun ρ σ=>by rw[ha,hb,hg,h];exact⟨rfl,rfl⟩
theorem Aei{t ks}(h:flatT P t=some ks):∃fs:Array Field,P.underlying t=some (.struct fs)∧P.stoodInHeld t=false∧P.eqGuardType P.depth t=false∧flatK P 0 fs.toList=some ks:=by
 unfold flatT at h
 split at h
 ·rename_i fs h1 h2 h3;exact⟨fs,h3,h1,h2,h⟩
 ·cases h
theorem Azg{n f fs ks}(h:flatK P n (f::fs)=some ks):∃k l,ks=k::l∧f.name ≠ "_"∧f.offset=n∧P.underlying f.type=some (.int k)∧flatK P (n+1) fs=some l:=by
 unfold flatK at h
 split at h
 ·rename_i k l h1 h2 h3 h4
  cases h
  exact⟨k,l,rfl,by simpa using h1,Vg h2,h3,h4⟩
 ·cases h
theorem Akz{k ks x y r}(h:eqF (k::ks) x y=some r):∃a x' b y' r',x = .i k a::x'∧y = .i k b::y'∧eqF ks x' y'=some r'∧r=(a==b&&r'):=by
 replace h:eqF1 k (eqF ks) x y=some r:=h
 unfold eqF1 at h
 split at h
 ·split at h
  ·rename_i k1 a x' k2 b y' _ _ h1 h2
   cases hr:eqF ks x' y' with
   | none=>rw[hr]at h;cases h
   | some r' =>
    rw[hr]at h
    simp only[Option.some.injEq]at h
    rw[←Abb h1,←Abb h2]
    exact⟨a,x',b,y',r',rfl,rfl,hr,by rw[←h,Auf];cases (a==b)<;>rfl⟩
  ·cases h
 ·cases h
theorem Ala:∀(fs:List Field) (n:Nat) (ks:List IntKind) (x y:List CV) (xs ys:List Value) (r:Bool),flatK P n fs=some ks→eqF ks x y=some r→VR R x (xs.drop n)→VR R y (ys.drop n)→∃ps qs,EqF P xs.toArray ys.toArray fs ps qs∧r=decide (ps=qs)
 | [],n,ks,x,y,xs,ys,r,h1,h2,h3,h4=>by
  cases h1
  replace h2:eqF0 x y=some r:=h2
  unfold eqF0 at h2
  split at h2
  ·cases h2;exact⟨[],[],trivial,rfl⟩
  ·cases h2
 | f::fs,n,ks,x,y,xs,ys,r,h1,h2,h3,h4=>by
  obtain⟨k,l,rfl,hn,ho,hk,v⟩:=Azg h1
  obtain⟨a,x',b,y',r',rfl,rfl,B,C⟩:=Akz h2
  have hd:∀{z:List CV} {zs:List Value} {c:Int},VR R (.i k c::z) (zs.drop n)→zs[n]?=some (.int k c)∧VR R z (zs.drop (n+1)):=fun {z zs c} h=>by
   cases hz:zs.drop n with
   | nil=>rw[hz]at h;cases h
   | cons w ws =>
    rw[hz]at h
    obtain⟨d,e⟩:=VR.cons_iff.1 h
    have g:=Yk d
    subst g
    have j:zs[n]?=some (.int k c):=by
     have:=congrArg List.head? hz
     simpa using this
    have m:zs.drop (n+1)=ws:=by
     have:=congrArg List.tail hz
     simpa using this
    exact⟨j,by rw[m];exact e⟩
  obtain⟨d,e⟩:=hd h3
  obtain⟨p,q⟩:=hd h4
  obtain⟨ps,qs,t,u⟩:=Ala fs (n+1) l x' y' xs ys r' v B e q
  refine⟨a::ps,b::qs,⟨⟨hn,k,hk,by rw[ho];simpa using d,by rw[ho];simpa using p⟩,t⟩,?_⟩
  rw[C,u]
  by_cases hab:a=b
  ·subst hab;simp
  ·have:(a==b)=false:=by simpa using hab
   rw[this];simp[hab]
theorem Bik(op:BinOp)(t:TypeId)(a b:Operand)(t':TypeId):Ps P (.binOp op t a b t'):=fun R e e' m x m' he hg h=>by
  have ha:=Hd he hg a
  have hb:=Hd he hg b
  have G : ∀(hh : (match (rdK a).run e, (rdK b).run e with
        | .i k u,.i k' z=>match xKind k k' with
          | true=>match (binKN op).run k u z with|some v=>OR.v v m|none=>.bad
          | false=>.bad
        | _,_=>.bad) = .v x m'),m'=m∧Apv P (.binOp op t a b t') R e' x:=fun hh=>by
    split at hh
    · rename_i k u k' z hu hz
      split at hh
      · rename_i hk
        have hk:=Abb hk
        subst hk
        cases hw:(binKN op).run k u z with
        | none=>rw[hw]at hh;cases hh
        | some w =>
          rw[hw]at hh
          obtain⟨rfl,rfl⟩:=Pr hh
          rw[hu]at ha;rw[hz]at hb
          obtain⟨v,c,d⟩:=Bmg (R:=R) (t:=t) (Bdu _ _ _ _ _ hw)
          exact⟨rfl,Ayk (Yk ha) (Yk hb) Dh c d⟩
      · cases hh
    · cases hh
  unfold opK at h
  simp only at h
  split at h
  · split at h
    · have h':(match (rdK a).run e,(rdK b).run e with | .i k u,.i _ (.ofNat n)=>OR.v (.i k (k.wrap (u*2^(min n k.bits)))) m|_,_=>.bad) = .v x m':=h
      split at h'
      · rename_i k u k' n hu hz
        obtain⟨rfl,rfl⟩:=Pr h'
        rw[hu]at ha;rw[hz]at hb
        refine .inl ⟨rfl,Ayk (Yk ha) (Yk hb) Dh (.i _ _ .nil) ?_⟩
        show Op.shift .shl k u k' (Int.ofNat n)=_
        unfold Op.shift
        rw[if_neg (show ¬(Int.ofNat n<0) from Int.not_lt.2 (Bez n))]
        rfl
      · cases h'
    · have h':(match (rdK a).run e,(rdK b).run e with | .i k u,.i _ (.ofNat n)=>OR.v (.i k (u.fdiv (2^(min n k.bits)))) m|_,_=>.bad) = .v x m':=h
      split at h'
      · rename_i k u k' n hu hz
        obtain⟨rfl,rfl⟩:=Pr h'
        rw[hu]at ha;rw[hz]at hb
        refine .inl ⟨rfl,Ayk (Yk ha) (Yk hb) Dh (.i _ _ .nil) ?_⟩
        show Op.shift .shr k u k' (Int.ofNat n)=_
        unfold Op.shift
        rw[if_neg (show ¬(Int.ofNat n<0) from Int.not_lt.2 (Bez n))]
        rfl
      · cases h'
    · exact .inl (G h)
  · rename_i ks hf
    obtain⟨fs,c,d,E,F⟩:=Aei hf
    split at h
    · have h':(match (rdK a).run e,(rdK b).run e with | .g p,.g q=>(match eqF ks p q with|some r=>OR.v (.b r) m|none=>.bad)|_,_=>.bad) = .v x m':=h
      split at h'
      · rename_i p q hu hz
        rw[hu]at ha;rw[hz]at hb
        cases hr:eqF ks p q with
        | none=>rw[hr]at h';cases h'
        | some r =>
          rw[hr]at h'
          obtain⟨rfl,rfl⟩:=Pr h'
          obtain⟨p',f,j⟩:=Apr ha
          obtain⟨q',l,B⟩:=Apr hb
          obtain⟨ps,qs,C,D⟩:=Ala fs.toList 0 ks p q p' q' r F hr f l
          refine .inl ⟨rfl,_,.b _ .nil,fun ρ σ dd ty pos af g=>?_⟩
          have:=Acg (P:=P) (ρ:=ρ) (e:=e') (ty:=ty) (t':=t') (x:=a) (y:=b) (fs:=fs.toList) (by rw[Alu];exact c) d E j B C
          rw[D]
          exact this ρ σ dd pos af g fun _ _ h=>h
      · cases h'
    · have h':(match (rdK a).run e,(rdK b).run e with | .g p,.g q=>(match eqF ks p q with|some r=>OR.v (.b !r) m|none=>.bad)|_,_=>.bad) = .v x m':=h
      split at h'
      · rename_i p q hu hz
        rw[hu]at ha;rw[hz]at hb
        cases hr:eqF ks p q with
        | none=>rw[hr]at h';cases h'
        | some r =>
          rw[hr]at h'
          obtain⟨rfl,rfl⟩:=Pr h'
          obtain⟨p',f,j⟩:=Apr ha
          obtain⟨q',l,B⟩:=Apr hb
          obtain⟨ps,qs,C,D⟩:=Ala fs.toList 0 ks p q p' q' r F hr f l
          refine .inl ⟨rfl,_,.b _ .nil,fun ρ σ dd ty pos af g=>?_⟩
          have:=Aci (P:=P) (ρ:=ρ) (e:=e') (ty:=ty) (t':=t') (x:=a) (y:=b) (fs:=fs.toList) (by rw[Alu];exact c) d E j B C
          rw[D]
          exact this ρ σ dd pos af g fun _ _ h=>h
      · cases h'
    · cases h
end
end
end Go.Proofs.YtninnkechkolnaaGreatDoor
