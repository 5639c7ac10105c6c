/- Part 4 of what all laws of layer 8 need: a logic of programs that start goroutines, and what the functions yield. -/
import Derived.Test.YtninnkechkolnaaGreatDoorB3
import Derived.KernelRfl
import Derived.Lib.Bytealg
set_option linter.unusedVariables false
set_option linter.unusedSimpArgs false
set_option maxRecDepth 100000
set_option maxHeartbeats 4000000
namespace Go.Proofs.YtninnkechkolnaaGreatDoor
section
open Go
/-- More may be read,and these blocks are still owned. -/
def leO(ρ₀:Ro)(A:Own):Ro→Own→Prop:=fun ρ' σ'=>Ro.le ρ₀ ρ'∧∀p∈A,p∈σ'
def Aai(P:Program)(ρ₀:Ro)(A:Own)(e:Env)(op:Op)(ty:TypeId)(v:Value):Prop :=
 ∀ρ' σ d pos af g,leO ρ₀ A ρ' σ→wpS P ρ' (execOp (Af e) ⟨d,op,ty,pos,af,g⟩) σ (fun nx σ'=>nx = .value v∧σ'=σ)
theorem Yld.o{P:Program}{ρ₀:Ro}{A:Own}{e:Env}{op:Op}{ty:TypeId}{v:Value}(h:Yld P ρ₀ e op ty v):Aai P ρ₀ A e op ty v:=fun ρ' σ d pos af g hS=>h ρ' σ d pos af g hS.1
theorem Btn{σ:Own}:∀p∈([]:Own),p∈σ:=fun p hp=>by cases hp
theorem Btl{A σ:Own}{x:Nat×Res}(h:∀p∈A,p∈σ):∀p∈x::A,p∈x::σ:=fun p hp=>by
 rcases Gw.1 hp with rfl|hp
 ·exact Afa ..
 ·exact lZ5 _ (h p hp)
theorem Btk{A σ:Own}{x:Nat×Res}(h:∀p∈A,p∈σ):∀p∈A,p∈x::σ:=fun p hp=>lZ5 _ (h p hp)
theorem Btm{A σ gr:Own}(h:∀p∈A,p∈σ):∀p∈A,p∈gr++σ:=fun p hp=>Po _ (h p hp)
theorem sB{A σ:Own}(h:∀p∈A,p∈σ:=by repeat first|exact Btn|refine Btl ?_|refine subG ?_|refine Btk ?_|refine Btm ?_):∀p∈A,p∈σ:=h
section
variable{C:Ctx}{b:FB}{n:Nat}{l₀ rest:List Oper}{Q:Env→List Deferred→Ro→Own→Prop}{e:Env}{ds:List Deferred}{ρ ρ₀ ρ₁:Ro}{σ A:Own}{pz:List Nat}{fuel:Nat}
variable{d i:Nat}{op:Op}{ty:TypeId}{pos:String}{af:Array Edge}{g:Option (Nat×Bool)}{v:Value}{li:List Bool}
theorem Abm(hS:leO ρ₀ A ρ σ)(hw:Bz l₀.toArray ⟨some d,op,ty,pos,af,g⟩ e=true)(hy:Aai C.P ρ₀ A e op ty v)(h:Ey C b n l₀ rest Q (upd e d v) ds ρ σ):Ey C b n l₀ (⟨some d,op,ty,pos,af,g⟩::rest) Q e ds ρ σ :=
 Add hw (Eu (by rintro nx σ' ⟨rfl,rfl⟩;exact h) _ _ (hy ρ σ _ _ _ _ hS))
theorem Ox{id:Nat}{Q:Hu}(A:Own)(pz:List Nat)(hm:C.P.follows .mixedOrders=true)(hs:Nm n l₀=true)(hk:b.kind = .normal)
  (h:El C b l₀.toArray (fun e ds ρ σ=>Q .normal e ds ρ σ) pz (leO ρ A) l₀.length (List.replicate l₀.length false).toArray e ds ρ σ):WpC C b n (.region id l₀.toArray true) Q e ds ρ σ :=
 Vk pz (leO ρ A) hm (Ih hs) (by rw[hk];simp) (by simpa using h)
theorem Us(hr:Dl l₀ li=[])(h:Q e ds ρ σ):El C b l₀.toArray Q pz (leO ρ₀ A) fuel li.toArray e ds ρ σ:=Aeb (by rw[Hh];exact hr) h fuel
theorem Boa(li':List Bool)(hli:li.set i true=li')(ht:Py l₀ li pz i=true)(hi:l₀[i]?=some ⟨some d,op,ty,pos,af,g⟩)
  (hS:leO ρ₀ A ρ σ) (hw:Bz l₀.toArray ⟨some d,op,ty,pos,af,g⟩ e=true) (hy:Aai C.P ρ₀ A e op ty v) (h:El C b l₀.toArray Q pz (leO ρ₀ A) fuel li'.toArray (upd e d v) ds ρ σ) :
  El C b l₀.toArray Q pz (leO ρ₀ A) (fuel+1) li.toArray e ds ρ σ:=by
 obtain⟨a,c,f,j⟩:=Wg ht
 refine Vm (by rw[Pe];exact hi) a c f j (.inl ⟨hw,fun ρ' σ' hS'=>hy ρ' σ' _ _ _ _ hS'⟩) hS ?_
 rw[Mo hli];exact h
theorem Cu  (i:Nat) (li':List Bool) (hi:l₀[i]?=some ⟨some d,op,ty,pos,af,g⟩) (hS:leO ρ₀ A ρ σ) (hw:Bz l₀.toArray ⟨some d,op,ty,pos,af,g⟩ e=true) (hy:Aai C.P ρ₀ A e op ty v) (h:El C b l₀.toArray Q pz (leO ρ₀ A) fuel li'.toArray (upd e d v) ds ρ σ) (hli:li.set i true=li':=by rfl) (ht:Py l₀ li pz i=true:=by kernel_rfl) :
  El C b l₀.toArray Q pz (leO ρ₀ A) (fuel+1) li.toArray e ds ρ σ:=Boa (i:=i) li' hli ht hi hS hw hy h
theorem Bqi{F:Value→Prop}(li':List Bool)(hli:li.set i true=li')(ht:Py l₀ li pz i=true)(hi:l₀[i]?=some ⟨some d,op,ty,pos,af,g⟩)
  (hS:leO ρ₀ A ρ σ) (hw:Bz l₀.toArray ⟨some d,op,ty,pos,af,g⟩ e=true) (hy:∃v,F v∧Aai C.P ρ₀ A e op ty v) (h:∀v,F v→El C b l₀.toArray Q pz (leO ρ₀ A) fuel li'.toArray (upd e d v) ds ρ σ) :
  El C b l₀.toArray Q pz (leO ρ₀ A) (fuel+1) li.toArray e ds ρ σ:=let ⟨v,h1,h2⟩:=hy;Boa li' hli ht hi hS hw h2 (h v h1)
theorem Ahn{F:Value→Prop}(i:Nat)(li':List Bool)(hi:l₀[i]?=some ⟨some d,op,ty,pos,af,g⟩)(hS:leO ρ₀ A ρ σ)(hw:Bz l₀.toArray ⟨some d,op,ty,pos,af,g⟩ e=true)(hy:∃v,F v∧Aai C.P ρ₀ A e op ty v)(h:∀v,F v→El C b l₀.toArray Q pz (leO ρ₀ A) fuel li'.toArray (upd e d v) ds ρ σ)(hli:li.set i true=li':=by rfl)(ht:Py l₀ li pz i=true:=by kernel_rfl) :
  El C b l₀.toArray Q pz (leO ρ₀ A) (fuel+1) li.toArray e ds ρ σ:=Bqi (i:=i) li' hli ht hi hS hw hy h
theorem Are{ρ':Ro}{σ':Own}(hg:Ghost ρ σ ρ' σ')(hS:leO ρ₀ A ρ σ→leO ρ₀ A ρ' σ')(h:El C b l₀.toArray Q pz (leO ρ₀ A) (fuel+1) li.toArray e ds ρ' σ'):El C b l₀.toArray Q pz (leO ρ₀ A) (fuel+1) li.toArray e ds ρ σ:=Aar hg hS h
/-- The one that may come up. -/
theorem Bnz(li':List Bool)(hli:li.set i true=li')(hr:Dl l₀ li=[i])(hi:l₀[i]?=some ⟨some d,op,ty,pos,af,g⟩)(hw:Bz l₀.toArray ⟨some d,op,ty,pos,af,g⟩ e=true)
  (h:wpS C.P ρ (execOp (Af e) ⟨some d,op,ty,pos,af,g⟩) σ (NextH C (fun v ds' ρ' σ'=>leO ρ₀ A ρ' σ'∧El C b l₀.toArray Q pz (leO ρ₀ A) fuel li'.toArray (upd e d v) ds' ρ' σ') b.round ds ρ)) :
  El C b l₀.toArray Q pz (leO ρ₀ A) (fuel+1) li.toArray e ds ρ σ:=by
 refine Mz ((Hh _ _).trans hr) (by simp) fun j hj=>?_
 rw[Qp]at hj;subst hj
 unfold OpH
 simp only[Pe,hi,Mo hli]
 rw[if_pos hw]
 exact Eu (fun nx σ' hn=>hn.mono fun v ds ρ σ hh=>⟨fun _=>hh.1,hh.2⟩) _ _ h
theorem Nd  (i:Nat) (li':List Bool) (hi:l₀[i]?=some ⟨some d,op,ty,pos,af,g⟩) (hw:Bz l₀.toArray ⟨some d,op,ty,pos,af,g⟩ e=true) (h:wpS C.P ρ (execOp (Af e) ⟨some d,op,ty,pos,af,g⟩) σ (NextH C (fun v ds' ρ' σ'=>leO ρ₀ A ρ' σ'∧El C b l₀.toArray Q pz (leO ρ₀ A) fuel li'.toArray (upd e d v) ds' ρ' σ') b.round ds ρ)) (hli:li.set i true=li':=by rfl) (hr:Dl l₀ li=[i]:=by kernel_rfl) :
  El C b l₀.toArray Q pz (leO ρ₀ A) (fuel+1) li.toArray e ds ρ σ:=Bnz (i:=i) li' hli hr hi hw h
/-- The one that may come up,and that waits for those that were taken first. -/
theorem Blw(li':List Bool)(hli:li.set i true=li')(hr:Dl l₀ li=[i])(hl:Pg l₀.toArray pz i=true)(hi:l₀[i]?=some ⟨none,op,ty,pos,af,g⟩)(hw:Bz l₀.toArray ⟨none,op,ty,pos,af,g⟩ e=true)
  (h:wpS C.P ρ (execOp (Af e) ⟨none,op,ty,pos,af,g⟩) σ (NextH C (fun _ ds' ρ' σ'=>El C b l₀.toArray Q pz (leO ρ₀ A) fuel li'.toArray e ds' ρ' σ') b.round ds ρ)) :
  El C b l₀.toArray Q pz (leO ρ₀ A) (fuel+1) li.toArray e ds ρ σ:=by
 refine Mz ((Hh _ _).trans hr) (by simp) fun j hj=>?_
 rw[Qp]at hj;subst hj
 unfold OpH
 simp only[Pe,hi,Mo hli]
 rw[if_pos hw]
 exact Eu (fun nx σ' hn=>hn.mono fun v ds ρ σ hh=>⟨fun h=>(by rw[hl]at h;cases h),hh⟩) _ _ h
theorem Tw  (i:Nat) (li':List Bool) (hi:l₀[i]?=some ⟨none,op,ty,pos,af,g⟩) (hw:Bz l₀.toArray ⟨none,op,ty,pos,af,g⟩ e=true) (h:wpS C.P ρ (execOp (Af e) ⟨none,op,ty,pos,af,g⟩) σ (NextH C (fun _ ds' ρ' σ'=>El C b l₀.toArray Q pz (leO ρ₀ A) fuel li'.toArray e ds' ρ' σ') b.round ds ρ)) (hli:li.set i true=li':=by rfl) (hr:Dl l₀ li=[i]:=by kernel_rfl) (hl:Pg l₀.toArray pz i=true:=by kernel_rfl) :
  El C b l₀.toArray Q pz (leO ρ₀ A) (fuel+1) li.toArray e ds ρ σ:=Blw (i:=i) li' hli hr hl hi hw h
theorem Bhl(li':List Bool)(hli:li.set i true=li')(hr:Dl l₀ li=[i])(hi:l₀[i]?=some ⟨some d,op,ty,pos,af,g⟩)(hS:leO ρ₀ A ρ σ)(hw:Bz l₀.toArray ⟨some d,op,ty,pos,af,g⟩ e=true)(hy:Aai C.P ρ₁ A e op ty v)(hS1:leO ρ₁ A ρ σ)
  (h:El C b l₀.toArray Q pz (leO ρ₀ A) fuel li'.toArray (upd e d v) ds ρ σ):El C b l₀.toArray Q pz (leO ρ₀ A) (fuel+1) li.toArray e ds ρ σ :=
 Bnz li' hli hr hi hw (Eu (by rintro nx σ' ⟨rfl,rfl⟩;exact⟨hS,h⟩) _ _ (hy ρ σ _ _ _ _ hS1))
theorem Dz  (i:Nat) (li':List Bool) (hi:l₀[i]?=some ⟨some d,op,ty,pos,af,g⟩) (hS:leO ρ₀ A ρ σ) (hw:Bz l₀.toArray ⟨some d,op,ty,pos,af,g⟩ e=true) (hy:Aai C.P ρ₁ A e op ty v) (hS1:leO ρ₁ A ρ σ) (h:El C b l₀.toArray Q pz (leO ρ₀ A) fuel li'.toArray (upd e d v) ds ρ σ) (hli:li.set i true=li':=by rfl) (hr:Dl l₀ li=[i]:=by kernel_rfl):El C b l₀.toArray Q pz (leO ρ₀ A) (fuel+1) li.toArray e ds ρ σ:=Bhl (i:=i) li' hli hr hi hS hw hy hS1 h
theorem Blx{F:Value→Prop}(li':List Bool)(hli:li.set i true=li')(hr:Dl l₀ li=[i])(hi:l₀[i]?=some ⟨some d,op,ty,pos,af,g⟩)(hS:leO ρ₀ A ρ σ)(hw:Bz l₀.toArray ⟨some d,op,ty,pos,af,g⟩ e=true)(hy:∃v,F v∧Aai C.P ρ₁ A e op ty v)(hS1:leO ρ₁ A ρ σ)
  (h:∀v,F v→El C b l₀.toArray Q pz (leO ρ₀ A) fuel li'.toArray (upd e d v) ds ρ σ):El C b l₀.toArray Q pz (leO ρ₀ A) (fuel+1) li.toArray e ds ρ σ:=let ⟨v,h1,h2⟩:=hy;Bhl li' hli hr hi hS hw h2 hS1 (h v h1)
theorem Wa{F:Value→Prop}(i:Nat)(li':List Bool)(hi:l₀[i]?=some ⟨some d,op,ty,pos,af,g⟩)(hS:leO ρ₀ A ρ σ)(hw:Bz l₀.toArray ⟨some d,op,ty,pos,af,g⟩ e=true)(hy:∃v,F v∧Aai C.P ρ₁ A e op ty v)(hS1:leO ρ₁ A ρ σ)(h:∀v,F v→El C b l₀.toArray Q pz (leO ρ₀ A) fuel li'.toArray (upd e d v) ds ρ σ)(hli:li.set i true=li':=by rfl)(hr:Dl l₀ li=[i]:=by kernel_rfl):El C b l₀.toArray Q pz (leO ρ₀ A) (fuel+1) li.toArray e ds ρ σ:=Blx (i:=i) li' hli hr hi hS hw hy hS1 h
end
section
variable{P:Program}{ρ₀:Ro}{A:Own}{e:Env}{ty t t':TypeId}{x:Operand}{v:Value}
theorem Fl{r off:Nat}{c:List Value}{fz:Nat×Nat}(hT:∃d,P.underlying t=some d∧Qv d=false)(hx:Af e x = .pointer (some ⟨r,off,none⟩))(hm:(r,Res.obj (.cells c.toArray t' fz))∈A)(hc:c[off]?=some v):Aai P ρ₀ A e (.load t x) ty v:=fun ρ' σ d pos af g hS=>by
 show wpS P ρ' ((Instr.loadAt t (Af e x)).bind fun v=>Sem.pure (Next.value v)) σ _
 rw[Ad,hx]
 show wpS P ρ' (loadVar t ⟨r,off,none⟩) σ _
 show wpS P ρ' ((isAgg t).bind _) σ _
 rw[Ad]
 refine Hi hT ?_
 exact⟨rfl,rfl,_,v,.inr (hS.2 _ hm),by simpa[Gy]using hc,rfl,rfl⟩
theorem Avx{r off n':Nat}{c cs rs:List Value}{fz:Nat×Nat}(hT:∃d,P.underlying t=some d∧Qv d=true)(hz:∃i,P.info? t=some i∧i.size=n')(hx:Af e x = .pointer (some ⟨r,off,none⟩))(hm:(r,Res.obj (.cells c.toArray t' fz))∈A)(hc:c.drop off=cs++rs)(hn:cs.length=n') :
  Aai P ρ₀ A e (.load t x) ty (.agg cs.toArray):=fun ρ' σ d pos af g hS=>by
 show wpS P ρ' ((Instr.loadAt t (Af e x)).bind fun v=>Sem.pure (Next.value v)) σ _
 rw[Ad,hx]
 show wpS P ρ' ((isAgg t).bind _) σ _
 rw[Ad]
 refine Hi hT ?_
 show wpS P ρ' ((sizeOf t).bind fun n=>(loadCells ⟨r,off,none⟩ n).bind _) σ _
 rw[Ad]
 refine Dx hz ?_
 rw[Ad,←hn]
 refine Ff rfl (.inr (hS.2 _ hm)) cs 0 #[] (fun j w hj=>?_) ?_
 ·have:(c.drop off)[j]?=some w:=by rw[hc,Ajl];exact hj;exact(lZ8.1 hj).1
  rw[Xy]at this
  simpa[Gy]using this
 ·have b:(#[]:Array Value)++cs.toArray=cs.toArray:=by simp
  rw[b];exact⟨rfl,rfl⟩
/-- One cell of an element of a slice that grows is read. -/
theorem Bnl{α β:Type}[Dat α][Dat β]{o off i:Nat}{get:α→β}{xs:List α}{z:α}{gr:Own}{el:TypeId}(hf:Fld α β o get)(ha:Dat.agg β=false)(hG:Grow ρ₀ el v xs gr)(hsub:∀p∈gr,p∈A)(hi:xs[i]?=some z)
  (hT:∃d,P.underlying t=some d∧Qv d=false) (hx:Af e x = .pointer (some ⟨Ahx v,off,none⟩)) (ho:off=i*Dat.k α+o):∃w,Val ρ₀ w (get z)∧Aai P ρ₀ A e (.load t x) ty w:=by
 have hil:i<xs.length:=(lZ8.1 hi).1
 rcases hG.2.2 with⟨_,a⟩|⟨r,cap,cs,rs,gb,g,h,hr,hl,hc⟩
 ·rw[a]at hil;simp at hil
 ·subst g h
  obtain⟨c,u,j,a⟩:=hr.get hi
  obtain⟨pre,cs',y,l,m,b⟩:=hf.at_ _ _ _ a
  have n:cs'.length=1:=(Dat.len b).trans (Dat.one ha)
  match cs',n with
  | [w],_ =>
   refine⟨w,⟨[w],b,by unfold Vu;rw[ha];rfl⟩,Fl hT hx (hsub _ mC) ?_⟩
   have q:cs.drop off=[w]++(y++u):=by rw[ho,←Aug,j,l,←m,lZ9,Azz,lZ9]
   have f:cs[off]?=some w:=by
    have:=congrArg (·[0]?) q
    simpa using this
   rw[Ajl (lZ8.1 f).1,f]
end
section
variable{P:Program}{ρ₀:Ro}{A:Own}{e:Env}{ty t t':TypeId}{x y:Operand}{v w:Value}{xs:List Sale}{i:Nat}{gr:Own}
end
section
variable{C:Ctx}{e:Env}{ds:List Deferred}{ρ:Ro}{σ:Own}{K:Value→List Deferred→Ro→Own→Prop}{rd:Option Nat}{dd:Option Tmp}
variable{ty:TypeId}{pos:String}{af:Array Edge}{g:Option (Nat×Bool)}{x y:Operand}{v w w':Value}{t t':TypeId}{xs:List Sale}{i:Nat}{gr:Own}
end
theorem Vo{P:Program}{ρ₀:Ro}{A:Own}{e:Env}{op:Op}{ty:TypeId}{F:Value→Prop}(h:∃v,F v∧Yld P ρ₀ e op ty v):∃v,F v∧Aai P ρ₀ A e op ty v:=let ⟨v,h1,h2⟩:=h;⟨v,h1,h2.o⟩
theorem Nc{C:Ctx}{b:FB}{l₀:List Oper}{Q:Env→List Deferred→Ro→Own→Prop}{e:Env}{ds:List Deferred}{ρ ρ₀:Ro}{σ σ' A:Own}{pz:List Nat}{fuel:Nat}{li:List Bool}(hp:σ.Perm σ')(h:El C b l₀.toArray Q pz (leO ρ₀ A) (fuel+1) li.toArray e ds ρ σ'):El C b l₀.toArray Q pz (leO ρ₀ A) (fuel+1) li.toArray e ds ρ σ :=
 Are (Bxk hp) (fun hS=>⟨hS.1,fun p hm=>hp.mem_iff.1 (hS.2 p hm)⟩) h
theorem Bfx{α:Type}[Dat α]{ρ:Ro}{el:TypeId}{v:Value}{xs:List α}{gr:Own}{i:Nat}{z:α}(hG:Grow ρ el v xs gr)(hi:xs[i]?=some z):∃cs,Dat.rep ρ cs z:=by
 rcases hG.2.2 with⟨_,a⟩|⟨r,cap,cs,rs,gb,b,d,hr,_⟩
 ·subst a;simp at hi
 ·obtain⟨c,e,_,a⟩:=hr.get hi;exact⟨c,a⟩
theorem Atm{ρ:Ro}{el:TypeId}{v:Value}{xs:List Int}{gr:Own}{i:Nat}{z:Int}(hG:Grow ρ el v xs gr)(hi:xs[i]?=some z):I64 z:=let ⟨_,h⟩:=Bfx hG hi;h.2
section
variable{P:Program}{ρ₀ ρ:Ro}{A:Own}{e:Env}{ty t t':TypeId}{x y:Operand}{v:Value}
theorem Avw{off i:Nat}{xs:List Int}{z:Int}{gr:Own}{el:TypeId}(hG:Grow ρ₀ el v xs gr)(hsub:∀p∈gr,p∈A)(hi:xs[i]?=some z)(hT:∃d,P.underlying t=some d∧Qv d=false)(hx:Af e x = .pointer (some ⟨Ahx v,off,none⟩))(ho:off=i*Dat.k Int):Aai P ρ₀ A e (.load t x) ty (.int .i64 z):=by
 obtain⟨w,a,b⟩:=Bnl (ty:=ty) Fld.self rfl hG hsub hi hT hx (o:=0) (by rw[ho];rfl)
 obtain⟨rfl,_⟩:=Cv.1 a
 exact b
end
theorem Tj{α:Type}[Dat α]{C:Ctx}{b:FB}{l₀:List Oper}{Q:Env→List Deferred→Ro→Own→Prop}{e:Env}{ds:List Deferred}{ρ ρ₀:Ro}{σ A:Own}{pz:List Nat}{fuel:Nat}{li:List Bool}{v:Value}{el:TypeId}{xs:List α}{gr:Own}(hg:Grow ρ el v xs gr)(hA:∀p∈A,p∈σ)
  (h:∀ρ',Ro.le ρ ρ'→Val ρ' v xs→El C b l₀.toArray Q pz (leO ρ₀ A) (fuel+1) li.toArray e ds ρ' σ):El C b l₀.toArray Q pz (leO ρ₀ A) (fuel+1) li.toArray e ds ρ (gr++σ):=by
 rcases hg.2.2 with⟨a,c⟩|⟨r,cap,cs,rs,gb,a,c,d,g,f⟩
 ·refine Are (drops hg.1) (fun hS=>⟨hS.1,hA⟩) (h ρ .refl ?_)
  rw[a,c];exact Gx
 ·subst c
  by_cases hb:ρ r=none
  ·have hle:Ro.le ρ (ρ.add r (.cells (cs++rs).toArray el (0,0))):=fun x ox hx=>by
    unfold Ro.add;rw[if_neg (fun e=>by rw[e,hb]at hx;cases hx)];exact hx
   show El C b l₀.toArray Q pz (leO ρ₀ A) (fuel+1) li.toArray e ds ρ ((r,_)::(gb++σ))
   exact Are ((Ghost.freeze hb).trans (drops fun p hp=>hg.1 p (lZ5 _ hp))) (fun hS=>⟨hS.1.trans hle,hA⟩) (h _ hle (Grow.val (rs:=rs) (el:=el) hg.2.1 a (d.mono hle) f (by simp[Ro.add])))
  ·exact .inl fun W hs=>absurd (hs.dj r mC) hb
end
section
open Go
theorem Gb{σ:Own}{k:Nat}{o:Obj}(h:Jp σ):Jp ((k,Res.obj o)::σ):=fun c vs hm=>by
 rcases Gw.1 hm with e|hm
 ·injection e with _ e;cases e
 ·exact h c vs hm
theorem Hr{α:Type}[Dat α]{ρ:Ro}{el:TypeId}{v:Value}{xs:List α}{gr σ:Own}(hG:Grow ρ el v xs gr)(h:Jp σ):Jp (gr++σ):=fun c vs hm=>by
 rcases Hs.1 hm with hm|hm
 ·obtain⟨o,ho⟩:=hG.1 _ hm
  cases ho
 ·exact h c vs hm
end
section
open Go Go.WideShapes Go.ChangeShapes Go.RowKit Go.Conc
/-- What the first goroutine may rely on besides: what it owns is newer than the call's world;what it has frozen is its own again while nobody else is there. -/
def Aor(P:Program)(W0:World):Frame→List Frame→Ro→Own→Cy→Prop:=fun fr cs ρ σ K =>
 Ade P fr cs ρ σ K ∨
 (∃(gr:Own) (ρ':Ro),Jp σ∧(∀p∈gr,W0.heap.size≤p.1∧∃o,p.2=Res.obj o∧ρ p.1=some o)∧(keys gr).Nodup∧Ro.le ρ' ρ∧(∀p∈gr,ρ' p.1=none)∧K fr cs ρ' (gr++σ)) ∨
 ((∀b∈keys σ,W0.heap.size≤b)→K fr cs ρ σ)
section
variable{P:Program}{Pst:Value→World→Prop}{W0:World}{fr:Frame}{cs:List Frame}{ρ:Ro}{σ:Own}
theorem Bcc{gr:Own}{ρ':Ro}(hn:Jp σ)(hg:∀p∈gr,W0.heap.size≤p.1∧∃o,p.2=Res.obj o∧ρ p.1=some o)(hnd:(keys gr).Nodup)(hle:Ro.le ρ' ρ)(hno:∀p∈gr,ρ' p.1=none)
  (hK:Fine P W0 Pst fr cs ρ' (gr++σ)):Fine P W0 Pst fr cs ρ σ:=by
 refine⟨fun gs w sl t q h=>hK.A gs w sl t q {h with sat:=?_,nr:=?_,newk:=?_},fun c vs j Am Aw Sh fw cw ρw σw wp gs w sl t q _ h=>absurd h.hc (hn _ _),fun c j Am Aw Sh pc gs w sl t q h=>absurd h.hc (hn _ _)⟩
 ·have hk:keys (gr++σ)=keys gr++keys σ:=Ny
  refine⟨fun k ok hk=>h.sat.ro k ok (hle k ok hk),fun p hp=>?_,?_,fun k hk'=>?_⟩
  ·rcases Hs.1 hp with hp|hp
   ·obtain⟨_,o,ho,hr⟩:=hg p hp
    rw[ho];exact h.sat.ro _ _ hr
   ·exact h.sat.own p hp
  ·rw[hk,Amq]
   refine⟨hnd,h.sat.nd,fun a ha b hb e=>?_⟩
   subst e
   obtain⟨p,hp,rfl⟩:=Ow.1 ha
   obtain⟨_,o,_,hr⟩:=hg p hp
   have:=h.sat.dj _ hb
   rw[hr]at this;cases this
  ·rw[hk,Hs]at hk'
   rcases hk' with hk'|hk'
   ·obtain⟨p,hp,rfl⟩:=Ow.1 hk';exact hno p hp
   ·cases hr:ρ' k with
    | none=>rfl
    | some o=>have:=h.sat.dj k hk';rw[hle k o hr]at this;cases this
 ·intro c vs hm
  rcases Hs.1 hm with hm|hm
  ·obtain⟨_,o,ho,_⟩:=hg _ hm;cases ho
  ·exact hn c vs hm
 ·intro b hb
  rw[show keys (gr++σ)=keys gr++keys σ from Ny,Hs]at hb
  rcases hb with hb|hb
  ·obtain⟨p,hp,rfl⟩:=Ow.1 hb;exact(hg p hp).1
  ·exact h.newk b hb
theorem Awv(hK:(∀b∈keys σ,W0.heap.size≤b)→Fine P W0 Pst fr cs ρ σ):Fine P W0 Pst fr cs ρ σ :=
 ⟨fun gs w sl t q h=>(hK h.newk).A gs w sl t q h,fun c vs j Am Aw Sh fw cw ρw σw wp gs w sl t q hW h=>(hK h.newk).B c vs j Am Aw Sh fw cw ρw σw wp gs w sl t q hW h,fun c j Am Aw Sh pc gs w sl t q h=>(hK h.newk).C c j Am Aw Sh pc gs w sl t q h⟩
theorem Amf(h:GoesH ⟨P,true,Aor P W0⟩ (Agg P W0 Pst) fr cs ρ σ):Fine P W0 Pst fr cs ρ σ:=by
 induction h with
 | stop h=>exact Aex h
 | ghost hg _ ih=>exact ih.ghost hg
 | step K h1 _ ih=>exact Aew h1 ih
 | @ext fr cs ρ σ K h1 _ ih =>
  rcases h1 with (⟨d,i,c,vs,fr',h1,h2,h3,h4,h5⟩|⟨i,c,v,vs,z,h1,h2,h3⟩|⟨i,c,z,h1,h2,h3⟩)|⟨gr,ρ',h1,h2,h3,h4,h5,h6⟩|h1
  ·exact Aeu h1 h2 h3 h4 (ih _ _ _ _ h5)
  ·exact Aev h1 h2 (ih _ _ _ _ h3)
  ·exact Aet h1 h2 (ih _ _ _ _ h3)
  ·exact Bcc h1 h2 h3 h4 h5 (ih _ _ _ _ h6)
  ·exact Awv fun hk=>ih _ _ _ _ (h1 hk)
theorem Ari{F:Frame}(h:GoesH ⟨P,true,Aor P W0⟩ (Agg P W0 Pst) F [] ρ [])(hro:∀b o,ρ b=some o→W0.heap[b]?=some o∧o.isChan=false) :
  ∃M last o w' t',runNT P (M+1) (solo (G F []) W0) #[]=(.ended o w',t')∧runN P M (solo (G F []) W0) = .next last∧step P last = .ended o w'∧Go.Conc.Good P Pst last o w' t':=by
 have hw:My P Pst (crowd #[G F []] W0 none) #[]:=(Amf h).A #[G F []] W0 none #[] (fun _=>0) {
  g0:=⟨G F [],rfl,Is.of _ _⟩
  oth:=fun k y hk hy=>by
   match k with
   | 0=>exact absurd rfl hk
   | k+1=>simp at hy
  sat:=⟨hro,fun p hp=>absurd hp Aqy,List.nodup_nil,fun b hb=>absurd hb Aqy⟩
  nr:=fun c' vs' hc'=>by cases hc'
  newk:=fun b hb=>by cases hb
  below:=Below.refl _ _
  tr:=TA.nil }
 exact hw
theorem Ark{f:FuncId}{r:Nat}{args:List Value}{R:Value→Ro→Own→Prop}(h:Agd ⟨P,true,Aor P W0⟩ f r args ρ [] R)(hi:P.inits.idxOf? f=none)
  (hR:∀v ρ' σ',R v ρ' σ'→σ'=[]∧∀W,Below W0.heap.size W0 W→Pst v W):GoesH ⟨P,true,Aor P W0⟩ (Agg P W0 Pst) (Frame.enter P f args.toArray .normal) [] ρ []:=by
 obtain⟨fn,c,hf,hc,hr,ha,hw⟩:=h
 have hf:P.funcs[f]?=some fn:=hf
 have b:Frame.enter P f args.toArray .normal=Fr ⟨f,.normal,none⟩ (args.toArray++Array.replicate (fn.ntmps-args.toArray.size) undef) [] [.code c]:=by
  simp[Frame.enter,hf,hc,Fr]
 rw[b]
 refine(hw (fun ex e ds ρ σ=>(∀id,ex ≠ .exit id)∧ds=[]∧R (e r) ρ σ) (fun e ρ' σ' h=>⟨fun id h=>(by cases h),rfl,h⟩) (fun e ρ' σ' h=>⟨fun id h=>(by cases h),rfl,h⟩) _ [] [] (Tn ha)).bind ?_
 rintro _ _ ρ' σ' ⟨rfl,ex,tm',e',ds',a,h1,⟨h2,rfl,h3⟩,h4,rfl⟩
 obtain⟨rfl,hp⟩:=hR _ _ _ h3
 have fin:∀a,GoesH ⟨P,true,Aor P W0⟩ (Agg P W0 Pst) {Fr ⟨f,.normal,none⟩ tm' [] a with mode:=.returning} [] ρ' []:=fun a=>by
  refine .stop ⟨fun c vs hm=>(by cases hm),fun W hs hb _=>⟨e' r,W,#[],?_,fun ev hv=>by simp at hv,hp W hb⟩⟩
  have hrs:(results fn tm').runT P W #[]=(.ok (e' r) W,#[]):=by
   rw[←h1.2 r]
   unfold results;rw[hr,Atu];rfl
  simp[Conc.G,stepG,Fr,unwind,hf,-Sem.runT_eq,hrs,doReturn,hi,GStep.after,seen]
 cases ex with
 | normal =>
  cases h4
  exact Eh (fr':={Fr ⟨f,.normal,none⟩ tm' [] [] with mode:=.returning}) (cs':=[]) (fun W=>by simp[Conc.G,stepG,stepG.exec,Fr]) (fin _)
 | exit id=>exact absurd rfl (h2 id)
 | ret =>
  obtain⟨pre,rfl⟩:=h4
  exact Eh (fr':={Fr ⟨f,.normal,none⟩ tm' [] (.code .ret::(pre++[])) with mode:=.returning}) (cs':=[]) (fun W=>by simp[Conc.G,stepG,stepG.exec,Fr]) (fin _)
end
theorem GoesH.ctx{P:Program}{mn:Bool}{X Y:Frame→List Frame→Ro→Own→Cy→Prop}(hX:∀fr cs ρ σ K,X fr cs ρ σ K→Y fr cs ρ σ K){S:Cy}{fr:Frame}{cs:List Frame}{ρ:Ro}{σ:Own}(h:GoesH ⟨P,mn,X⟩ S fr cs ρ σ):GoesH ⟨P,mn,Y⟩ S fr cs ρ σ:=by
 induction h with
 | stop h=>exact .stop h
 | ghost hg _ ih=>exact .ghost hg ih
 | step K h1 _ ih=>exact .step K h1 ih
 | ext K h1 _ ih=>exact .ext K (hX _ _ _ _ _ h1) ih
noncomputable abbrev CY(W0:World):Ctx:=CX true (Aor Tryz.prog W0)
theorem Yi{W0:World}{f:FuncId}{args:Array Value}{ρ:Ro}{σ:Own}{R:Value→Ro→Own→Prop}(h:CallsH (CX true (Ade Tryz.prog)) f args ρ σ R):CallsH (CY W0) f args ρ σ R :=
 fun c cs=>(h c cs).ctx fun _ _ _ _ _ h=>.inl h
section
variable{W0:World}{b:FB}{n:Nat}{e:Env}{ds:List Deferred}{ρ:Ro}{σ:Own}
theorem Awy{S:Cy}{fr:Frame}{cs:List Frame}(h:(∀b∈keys σ,W0.heap.size≤b)→(keys σ).Nodup→(∀b∈keys σ,ρ b=none)→GoesH (CY W0) S fr cs ρ σ):GoesH (CY W0) S fr cs ρ σ:=by
 by_cases hs:∃W,Sat ρ σ W
 ·obtain⟨W,hs⟩:=hs
  exact .ext (fun fr' cs' ρ' σ'=>fr'=fr∧cs'=cs∧ρ'=ρ∧σ'=σ∧∀b∈keys σ,W0.heap.size≤b) (.inr (.inr fun hk=>⟨rfl,rfl,rfl,rfl,hk⟩)) (by rintro _ _ _ _ ⟨rfl,rfl,rfl,rfl,hk⟩;exact h hk hs.nd hs.dj)
 ·exact Rc fun W hW=>hs ⟨W,hW⟩
theorem Adg{C:Ctx}{S:Cy}{fr:Frame}{cs:List Frame}:∀{gr:Own} {ρ:Ro},(∀p∈gr,∃o,p.2=Res.obj o)→(∀ρ',Ro.le ρ ρ'→(∀p∈gr,∃o,p.2=Res.obj o∧ρ' p.1=some o)→GoesH C S fr cs ρ' σ)→GoesH C S fr cs ρ (gr++σ)
 | [],ρ,_,h=>h ρ .refl fun p hp=>by cases hp
 | (k,x)::gr,ρ,hg,h=>by
  obtain⟨o,ho⟩:=hg _ mC
  simp only at ho;subst ho
  refine Rv fun ρ' b c=>Adg (fun p hp=>hg p (lZ5 _ hp)) fun ρ'' a d=>h ρ'' (b.trans a) fun p hp=>?_
  rcases Gw.1 hp with rfl|hp
  ·exact⟨o,rfl,a _ _ c⟩
  ·exact d p hp
/-- Blocks that are lent: frozen for now,newer than the call's world,not read before. -/
structure Lent(W0:World)(ρ0 ρ:Ro)(gr:Own):Prop where
 at_:∀p∈gr,W0.heap.size≤p.1∧∃o,p.2=Res.obj o∧ρ p.1=some o
 nd:(keys gr).Nodup
 no:∀p∈gr,ρ0 p.1=none
 le:Ro.le ρ0 ρ
theorem Bcf{α:Type}[Dat α]{S:Cy}{fr:Frame}{cs:List Frame}{el:TypeId}{v:Value}{xs:List α}{gr:Own}(hg:Grow ρ el v xs gr)
  (h:∀ρ',Ro.le ρ ρ'→Val ρ' v xs→Lent W0 ρ ρ' gr→GoesH (CY W0) S fr cs ρ' σ):GoesH (CY W0) S fr cs ρ (gr++σ):=by
 refine Awy fun j d k=>Adg hg.1 fun ρ' c e=>h ρ' c ?_ ⟨fun p hp=>⟨j _ (Yn (f:=Prod.fst) (Sf _ hp)),e p hp⟩,?_,fun p hp=>k _ (Yn (f:=Prod.fst) (Sf _ hp)),c⟩
 ·rcases hg.2.2 with⟨a,b⟩|⟨r,cap,cs,rs,gb,a,b,g,l,i⟩
  ·rw[a,b];exact Gx
  ·obtain⟨o,ho,hr⟩:=e (r,.obj (.cells (cs++rs).toArray el (0,0))) (by rw[b];exact Afa ..)
   cases ho
   exact Grow.val hg.2.1 a (g.mono c) i hr
 ·rw[show keys (gr++σ)=keys gr++keys σ from Ny,Amq]at d
  exact d.1
theorem Bce{S:Cy}{fr:Frame}{cs:List Frame}{gr:Own}{ρ0:Ro}(hL:Lent W0 ρ0 ρ gr)(hn:Jp σ)(h:GoesH (CY W0) S fr cs ρ0 (gr++σ)):GoesH (CY W0) S fr cs ρ σ :=
 .ext (fun fr' cs' ρ' σ'=>fr'=fr∧cs'=cs∧ρ'=ρ0∧σ'=gr++σ) (.inr (.inl ⟨gr,ρ0,hn,hL.at_,hL.nd,hL.le,hL.no,rfl,rfl,rfl,rfl⟩)) (by rintro _ _ _ _ ⟨rfl,rfl,rfl,rfl⟩;exact h)
theorem Baw{α:Type}[Dat α]{Q:Hu}{c:Code}{el:TypeId}{v:Value}{xs:List α}{gr:Own}(hg:Grow ρ el v xs gr)(h:∀ρ',Ro.le ρ ρ'→Val ρ' v xs→Lent W0 ρ ρ' gr→WpC (CY W0) b n c Q e ds ρ' σ):WpC (CY W0) b n c Q e ds ρ (gr++σ) :=
 fun tm k cs ht=>Bcf hg fun ρ' a d f=>h ρ' a d f tm k cs ht
theorem Bav{Q:Hu}{c:Code}{gr:Own}{ρ0:Ro}(hL:Lent W0 ρ0 ρ gr)(hn:Jp σ)(h:WpC (CY W0) b n c Q e ds ρ0 (gr++σ)):WpC (CY W0) b n c Q e ds ρ σ :=
 fun tm k cs ht=>Bce hL hn (h tm k cs ht)
end
end
section
open Go
theorem Asl{P:Program}{fr:Frame}{cs:List Frame}{s:Sem Next}{W W':World}{v:Value}{es:Array Event}(hk:fr.kind ≠ .early)(hr:s.runT P W #[]=(.ok (.value v) W',es)) :
  stepG.apply P true fr cs none s W = .go (Conc.G (fr.finish v) cs) W' (seen P fr.fn es):=by
 have hk':(fr.kind==CallKind.early)=false:=by cases h:fr.kind<;>simp_all<;>rfl
 simp[stepG.apply,-Sem.runT_eq,hr,hk',GStep.after,Conc.G]
section
variable{C:Ctx}{b:FB}{n:Nat}{l₀ rest:List Oper}{Q:Env→List Deferred→Ro→Own→Prop}{e:Env}{ds:List Deferred}{ρ:Ro}{σ:Own}
end
section
variable{P:Program}{ρ:Ro}{e:Env}{ty t t':TypeId}{x:Operand}{kt et:TypeId}{v:Value}
end
end
section
open Go
section
variable{P:Program}{ρ:Ro}{e:Env}{ty t t':TypeId}{x y:Operand}{v:Value}
theorem Avy{el:TypeId}{a:Option Addr}(hT:P.underlying t=some (.pointer el))(hx:Af e x = .pointer a)(hy:Af e y = .pointer none):Yld P ρ e (.binOp .eql t x y t') ty (.bool a.isNone) :=
 Mt (s:=(do eqGuard .eql t x y (Af e x) (Af e y);binOp .eql t (Af e x) (Af e y))) (fun _ _ _ _=>rfl) fun ρ' σ _=>by
  rw[hx,hy,show eqGuard .eql t x y (.pointer a) (.pointer none)=pure () from rfl]
  show wpS P ρ' ((Op.equal t (.pointer a) (.pointer none)).bind _) σ _
  rw[Ad]
  show wpS P ρ' ((underlying t).bind _) σ _
  rw[Ad]
  refine Az hT ?_
  cases a<;>exact⟨rfl,rfl⟩
theorem Bnm{el:TypeId}{a:Addr}{n:Nat}(hT:P.underlying t=some (.pointer el))(hz:∃i,P.info? el=some i∧i.size=n)(hn:n≠0)(hx:Af e x = .pointer (some a))(hy:Af e y = .pointer (some a)):Yld P ρ e (.binOp .neq t x y t') ty (.bool false) :=
 Mt (s:=(do eqGuard .neq t x y (Af e x) (Af e y);binOp .neq t (Af e x) (Af e y))) (fun _ _ _ _=>rfl) fun ρ' σ _=>by
  rw[hx,hy,show eqGuard .neq t x y (.pointer (some a)) (.pointer (some a))=pure () from rfl]
  show wpS P ρ' ((Op.equal t (.pointer (some a)) (.pointer (some a))).bind _) σ _
  rw[Ad]
  show wpS P ρ' ((underlying t).bind _) σ _
  rw[Ad]
  refine Az hT ?_
  show wpS P ρ' ((sizeOf el).bind _) σ _
  rw[Ad]
  refine Dx hz ?_
  simp only[ne_eq,hn,not_false_eq_true,if_true]
  show wpS P ρ' (sameAddr a a) σ _
  unfold sameAddr
  simp only[beq_self_eq_true,if_true]
  exact⟨rfl,rfl⟩
end
section
variable{C:Ctx}{e:Env}{ds:List Deferred}{ρ:Ro}{σ:Own}{K:Value→List Deferred→Ro→Own→Prop}{rd:Option Nat}{dd:Option Tmp}
variable{ty:TypeId}{pos:String}{af:Array Edge}{g:Option (Nat×Bool)}{x:Operand}{t t' t2:TypeId}
theorem Alq{P:Program}{a:Addr}{c:Array Value}{t1:TypeId}{fz:Nat×Nat}(h:Has ρ σ a.block (.cells c t1 fz)){Q:Addr→Own→Prop}(hq:Q a σ):wpS P ρ (Conv.seenAt a) σ Q:=by
 unfold Conv.seenAt viewAt
 show wpS P ρ (((shape a.block).bind _).bind _) σ Q
 rw[Ad,Ad]
 refine⟨_,h,?_⟩
 exact hq
/-- A pointer to a variable that is owned,without its type. -/
theorem Bdv{r n i:Nat}{c:List Value}{fz:Nat×Nat}{el:TypeId}(hT:C.P.underlying t=some (.pointer el))(hT':C.P.underlying t'=some .unsafePointer)(hz:∃i,C.P.info? el=some i∧i.size=n)(hn:n≠0)(hx:Af e x = .pointer (some ⟨r,0,none⟩))(hi:σ[i]?=some (r,.obj (.cells c.toArray t2 fz)))(hc:0<c.length)
  (h:K (.pointer (some ⟨r,0,none⟩)) ds ρ σ):wpS C.P ρ (execOp (Af e) ⟨dd,.convert t t' x,ty,pos,af,g⟩) σ (NextH C K rd ds ρ):=by
 have hh:Has ρ σ r (.cells c.toArray t2 fz):=.inr (Hd hi)
 show wpS C.P ρ ((convert t t' (Af e x)).bind _) σ _
 refine Gd ?_
 rw[hx]
 show wpS C.P ρ ((underlying t).bind _) σ _
 rw[Ad]
 refine Az hT ?_
 show wpS C.P ρ ((underlying t').bind _) σ _
 rw[Ad]
 refine Az hT' ?_
 show wpS C.P ρ (Conv.unsafePointer t t' (.pointer (some ⟨r,0,none⟩))) σ _
 unfold Conv.unsafePointer
 show wpS C.P ρ ((underlying t).bind _) σ _
 rw[Ad]
 refine Az hT ?_
 show wpS C.P ρ ((underlying t').bind _) σ _
 rw[Ad]
 refine Az hT' ?_
 simp only
 show wpS C.P ρ ((Conv.seenAt ⟨r,0,none⟩).bind _) σ _
 rw[Ad]
 refine Alq hh ?_
 show wpS C.P ρ ((cellsIn r).bind _) σ _
 rw[Ad]
 unfold cellsIn
 show wpS C.P ρ ((shape r).bind _) σ _
 rw[Ad]
 refine⟨_,hh,?_⟩
 simp only[Xk]
 show wpS C.P ρ ((sizeOf el).bind _) σ _
 rw[Ad]
 refine Dx hz ?_
 have a:¬(0:Nat)≥c.toArray.size:=by rw[show c.toArray.size=c.length by simp];omega
 simp only[a,hn,decide_false,Iv,Bool.or_self,if_false,Aey,or_self]
 exact h
/-- And back again. -/
theorem Bne{r n i:Nat}{c:List Value}{fz:Nat×Nat}{el:TypeId}(hT:C.P.underlying t=some .unsafePointer)(hT':C.P.underlying t'=some (.pointer el))(hz:∃i,C.P.info? el=some i∧i.size=n)(hn:n≠0)(hx:Af e x = .pointer (some ⟨r,0,none⟩))(hi:σ[i]?=some (r,.obj (.cells c.toArray t2 fz)))(hl:liesAt C.P C.P.depth t2 (c.length/C.P.cellsOf t2) 0 el 1=true)
  (h:K (.pointer (some ⟨r,0,none⟩)) ds ρ σ):wpS C.P ρ (execOp (Af e) ⟨dd,.convert t t' x,ty,pos,af,g⟩) σ (NextH C K rd ds ρ):=by
 have hh:Has ρ σ r (.cells c.toArray t2 fz):=.inr (Hd hi)
 show wpS C.P ρ ((convert t t' (Af e x)).bind _) σ _
 refine Gd ?_
 rw[hx]
 show wpS C.P ρ ((underlying t).bind _) σ _
 rw[Ad]
 refine Az hT ?_
 show wpS C.P ρ ((underlying t').bind _) σ _
 rw[Ad]
 refine Az hT' ?_
 show wpS C.P ρ (Conv.unsafePointer t t' (.pointer (some ⟨r,0,none⟩))) σ _
 unfold Conv.unsafePointer
 show wpS C.P ρ ((underlying t).bind _) σ _
 rw[Ad]
 refine Az hT ?_
 show wpS C.P ρ ((underlying t').bind _) σ _
 rw[Ad]
 refine Az hT' ?_
 simp only
 show wpS C.P ρ ((Conv.seenAt ⟨r,0,none⟩).bind _) σ _
 rw[Ad]
 refine Alq hh ?_
 show wpS C.P ρ ((sizeOf el).bind _) σ _
 rw[Ad]
 refine Dx hz ?_
 show wpS C.P ρ ((variablesAt ⟨r,0,none⟩ el 1).bind _) σ _
 rw[Ad]
 unfold variablesAt
 show wpS C.P ρ (program.bind _) σ _
 rw[Ad]
 show wpS C.P ρ ((shape r).bind _) σ _
 rw[Ad]
 refine⟨_,hh,?_⟩
 simp only[Xk]
 rw[show c.toArray.size=c.length by simp]
 show wpS C.P ρ (if (decide (n=0)||liesAt C.P C.P.depth t2 (c.length/C.P.cellsOf t2) 0 el 1)=true then _ else _) σ _
 rw[hl]
 simp only[Iz,if_true]
 exact h
end
section
variable{C:Ctx}{b:FB}{n:Nat}{l₀ rest:List Oper}{Q:Env→List Deferred→Ro→Own→Prop}{e:Env}{ds:List Deferred}{ρ:Ro}{σ:Own}
/-- A call of a function without a body,one step of a region of one order. -/
theorem Bsg{d:Nat}{f:FuncId}{fn:Func}{xs:Array Operand}{vs:Array Value}{G:Array Value→Sem Value}{R:Value→Own→Prop}{tys:Array TypeId}{ty:TypeId}{pos:String}{af:Array Edge}{g:Option (Nat×Bool)}
  (hw:Bz l₀.toArray ⟨some d,.call ⟨.value (.func f),xs,tys⟩,ty,pos,af,g⟩ e=true) (hf:C.P.funcs[f]?=some fn) (hn:(fn.name == "runtime.NumGoroutine")=false) (hb:fn.body.isNone=true)
  (hx0:Extern.findNext fn=none) (he:Extern.find fn=some G) (hx:xs.map (Af e)=vs) (hG:wpS C.P ρ (G vs) σ R)
  (h:∀v σ',R v σ'→Ey C b n l₀ rest Q (upd e d v) ds ρ σ') :
  Ey C b n l₀ (⟨some d,.call ⟨.value (.func f),xs,tys⟩,ty,pos,af,g⟩::rest) Q e ds ρ σ:=by
 intro pre c hs hk tm k cs ht
 have ho:l₀.toArray[pre.length]?=some ⟨some d,.call ⟨.value (.func f),xs,tys⟩,ty,pos,af,g⟩:=by subst c;simp
 rw[lZ3,Axl]
 have hev:=ht.eval b ds (.inRegion l₀.toArray (pre.length::List.range' (pre.length+1) rest.length)::k)
 have u:∀W:World,(execOp (Af e) ⟨some d,.call ⟨.value (.func f),xs,tys⟩,ty,pos,af,g⟩).runT C.P W #[]=((G vs).bind fun v=>Sem.pure (Next.value v)).runT C.P W #[⟨.mark (.extern f),false,true⟩]:=by
  intro W
  have j:execOp (Af e) ⟨some d,.call ⟨.value (.func f),xs,tys⟩,ty,pos,af,g⟩=callFunc f vs:=by
   show callFunc f ((#[]++xs.map (Af e)) ++ #[])=_
   rw[Amn,Ajn,hx]
  rw[j]
  unfold callFunc
  show ((program).bind _).runT C.P W #[]=_
  rw[Sem.runT_bind']
  simp only[program,Sem.runT,hf,hn,hb]
  simp only[hx0,he]
  rfl
 refine .step (fun fr' cs' σ'=>∃v,R v σ'∧fr'=(Fr b tm ds (.inRegion l₀.toArray (pre.length::List.range' (pre.length+1) rest.length)::k)).finish v∧cs'=cs) (fun W w=>?_) ?_
 ·have hwp:wpS C.P ρ ((G vs).bind fun v=>Sem.pure (Next.value v)) σ (fun nx σ'=>∃v,R v σ'∧nx = .value v):=by
   rw[Ad]
   exact Eu (fun v σ' hv=>⟨v,hv,rfl⟩) _ _ hG
  obtain⟨nx,σ',W',es,a,l,m,p⟩:=Rr _ σ _ W #[⟨.mark (.extern f),false,true⟩] hwp w
  obtain⟨v,hv,rfl⟩:=l
  rw[←u W]at a
  have q:=Asl (fr:=Fr b tm ds (.inRegion l₀.toArray (pre.length::List.range' (pre.length+1) rest.length)::k)) (cs:=cs) (by exact hk) a
  have t:∀ev∈seen C.P b.fn es,Ahr ρ σ' ev:=fun ev he'=>((p ev (Lh he').1).resolve_left fun hc=>Aao he' f (by simp at hc;rw[hc])).resolve_right fun⟨f,hf⟩=>(Lh he').2 f hf
  refine⟨_,cs,W',seen C.P b.fn es,_,?_,m,t,v,hv,rfl,rfl⟩
  have hst:=Np (C:=C) (b:=b) (ds:=ds) (tm:=tm) (k:=k) (cs:=cs) (rest:=List.range' (pre.length+1) rest.length) ho (by rw[Ij hs ht];exact hw) (fun c' h'=>by cases h') W
  refine hst.trans ?_
  rw[hev]
  exact q
 ·rintro _ _ σ' ⟨v,hv,rfl,rfl⟩
  rw[Ju ho]
  have i:=h v σ' hv (pre++[⟨some d,.call ⟨.value (.func f),xs,tys⟩,ty,pos,af,g⟩]) (by rw[c];simp) hs hk
  rw[lZ2,Aqv]at i
  exact i _ k _ (Jj hs ht ho _)
/-- Its value hangs on the arguments alone. -/
theorem Ajs{d:Nat}{f:FuncId}{fn:Func}{xs:Array Operand}{vs:Array Value}{G:Array Value→Sem Value}{v:Value}{tys:Array TypeId}{ty:TypeId}{pos:String}{af:Array Edge}{g:Option (Nat×Bool)}
  (hw:Bz l₀.toArray ⟨some d,.call ⟨.value (.func f),xs,tys⟩,ty,pos,af,g⟩ e=true) (hf:C.P.funcs[f]?=some fn) (hn:(fn.name == "runtime.NumGoroutine")=false) (hb:fn.body.isNone=true)
  (hx0:Extern.findNext fn=none) (he:Extern.find fn=some G) (hx:xs.map (Af e)=vs) (hG:wpS C.P ρ (G vs) σ (fun w σ'=>w=v∧σ'=σ))
  (h:Ey C b n l₀ rest Q (upd e d v) ds ρ σ) :
  Ey C b n l₀ (⟨some d,.call ⟨.value (.func f),xs,tys⟩,ty,pos,af,g⟩::rest) Q e ds ρ σ :=
 Bsg hw hf hn hb hx0 he hx hG fun _ _ ⟨a,c⟩=>by subst a c;exact h
end
theorem Agn{e:Env}{x:Operand}{v:Value}(h:Af e x=v):(#[x]:Array Operand).map (Af e) = #[v]:=by simp[h]
theorem Auo{e:Env}{x y:Operand}{v w:Value}(h:Af e x=v)(h':Af e y=w):(#[x,y]:Array Operand).map (Af e) = #[v,w]:=by simp[h,h']
theorem Bfn{P:Program}{ρ:Ro}{σ:Own}{v:Value}:wpS P ρ (Extern.AbiNoEscape.same #[v]) σ (fun w σ'=>w=v∧σ'=σ):=⟨rfl,rfl⟩
end
section
open Go
section
variable{C:Ctx}{e:Env}{ds:List Deferred}{ρ:Ro}{σ:Own}{K:Value→List Deferred→Ro→Own→Prop}{rd:Option Nat}{dd:Option Tmp}
variable{ty:TypeId}{pos:String}{af:Array Edge}{g:Option (Nat×Bool)}{x y:Operand}{v:Value}{t t':TypeId}
theorem Agu{xs ys:List UInt8}{gr:Own}{el:TypeId}{z:Value}{ti:TypeInfo}(hT:C.P.underlying t=some (.slice el))(hT':C.P.underlying t'=some .string)(hi:C.P.info? el=some ti)(hik:ti.size=Dat.k UInt8)(hib:ti.bytes≤1000)(hz:ti.zero=some z)(hzk:z.cells.size=Dat.k UInt8)
  (hx:Af e x=v) (hy:Af e y = .string (bs ys)) (hv:Grow ρ el v xs gr) (hlen:xs.length+ys.length<2^30)
  (h:∀v' gr',Grow ρ el v' (xs++ys) gr'→K v' ds ρ (gr'++σ)):wpS C.P ρ (execOp (Af e) ⟨dd,.call ⟨.builtin .append,#[x,y],#[t,t']⟩,ty,pos,af,g⟩) (gr++σ) (NextH C K rd ds ρ):=by
 have I:(#[x,y]:Array Operand).map (Af e) = #[v,.string (bs ys)]:=by simp[hx,hy]
 show wpS C.P ρ (builtin .append #[t,t'] ty ((#[x,y]:Array Operand).map fun | .const _=>true|_=>false) ((#[x,y]:Array Operand).map (Af e))) _ _
 rw[I]
 show wpS C.P ρ ((Builtin.append_ #[t,t'] ty #[v,.string (bs ys)]).bind fun v=>Sem.pure (Next.value v)) _ _
 refine Gd ?_
 obtain⟨va,vl,vc,hvs⟩:∃va vl vc,v = .slice va vl vc∧vl=xs.length:=by
  rcases hv.2.2 with⟨d,f⟩|⟨r,cap,cs,rs,gb,d,_⟩
  ·exact⟨none,0,0,d,by rw[f];rfl⟩
  ·exact⟨_,_,_,d,rfl⟩
 obtain⟨hvs,hvl⟩:=hvs
 subst hvl
 have hGo:∀(Q:Value→Own→Prop),(∀v' gr',Grow ρ el v' (xs++ys) gr'→Q v' (gr'++σ))→wpS C.P ρ (Builtin.append_ #[t,t'] ty #[v,.string (bs ys)]) (gr++σ) Q:=by
  intro Q hQ
  have w:∀{Q:Array Value→Own→Prop} {σ':Own},(∀cs,Rows ρ cs ys→Q cs.toArray σ')→wpS C.P ρ (Builtin.firstCells (Dat.k UInt8) ys.length (.string (bs ys))) σ' Q:=fun {Q σ'} hq=>by
   show Q (((bs ys).extract 0 ys.length).data.map fun (b:UInt8)=>Value.int .u8 (b.toNat:Int)) σ'
   rw[Aaw,Sr,Afb]
   have e:((bs ys).data.map fun (b:UInt8)=>Value.int .u8 (b.toNat:Int))=(ys.map fun (c:UInt8)=>Value.int .u8 (c.toNat:Int)).toArray:=by apply Array.ext';simp[bs]
   rw[e];exact hq _ (Ug _)
  rw[hvs]
  unfold Builtin.append_
  show wpS C.P ρ ((underlying t).bind _) _ _
  rw[Ad]
  refine Az hT ?_
  show wpS C.P ρ ((sizeOf el).bind _) _ _
  rw[Ad]
  refine Dx ⟨ti,hi,hik⟩ ?_
  show wpS C.P ρ ((underlying t').bind _) _ _
  rw[Ad]
  refine Az hT' ?_
  have M:∀{Q:Array Value→Own→Prop},(∀cs,Rows ρ cs xs→Q cs.toArray (gr++σ))→wpS C.P ρ (Builtin.firstCells (Dat.k UInt8) xs.length (.slice va xs.length vc)) (gr++σ) Q:=fun {Q} hq=>by
   rcases hv.2.2 with⟨d,f⟩|⟨r,cap,cs,rs,gb,d,f,l,n,H⟩
   ·subst f
    rw[hvs]at d
    simp only[lZ7,Value.slice.injEq]at d
    obtain⟨rfl,-,rfl⟩:=d
    exact hq [] rfl
   ·rw[hvs]at d;cases d
    show wpS C.P ρ (loadCells ⟨r,0,none⟩ (xs.length*Dat.k UInt8)) _ _
    rw[←l.len]
    refine Ff (a:=⟨r,0,none⟩) (o:=.cells (cs++rs).toArray el (0,0)) rfl (.inr (by rw[f];simp)) cs 0 #[] (fun j u hj=>?_) ?_
    ·simp only[Gy,Xz,Pe]
     rw[Ajl (lZ8.1 hj).1];exact hj
    ·have B:(#[]:Array Value)++cs.toArray=cs.toArray:=by simp
     rw[B];exact hq cs l
  by_cases hn:xs.length+ys.length≤vc
  ·show wpS C.P ρ (if xs.length+ys.length≤vc then (Builtin.firstCells (Dat.k UInt8) ys.length (.string (bs ys))).bind _ else _) _ _
   rw[if_pos hn,Ad]
   refine w fun cs' m=>?_
   rcases hv.2.2 with⟨d,f⟩|⟨r,cap,cs,rs,gb,d,f,l,n,H⟩
   ·subst f
    rw[hvs]at d
    simp only[lZ7,Value.slice.injEq]at d
    obtain⟨rfl,-,rfl⟩:=d
    have O:ys=[]:=Aqu (by simpa using hn)
    subst O
    exact hQ _ gr ⟨hv.1,by simp,.inl ⟨rfl,rfl⟩⟩
   ·rw[hvs]at d;cases d
    show wpS C.P ρ ((storeCells ((⟨r,0,none⟩:Addr).add (xs.length*Dat.k UInt8)) cs'.toArray.toList).bind _) _ _
    rw[Ad,Ld,Atw,Xz]
    have hl:xs.length*Dat.k UInt8+cs'.length≤(cs++rs).length:=by
     rw[n,m.len,←Yo];exact Atv _ hn
    refine Ns (r:=r) (i:=0) cs' ⟨r,xs.length*Dat.k UInt8,none⟩ 0 (cs++rs) (gr++σ) rfl rfl m.sgl (by rw[f];rfl) (by simpa using hl) ?_
    have D:over (cs++rs) (xs.length*Dat.k UInt8+0) cs'=(cs++cs')++(cs++rs).drop (xs.length*Dat.k UInt8+cs'.length):=by
     rw[Aqz,Qe _ _ _ hl,←l.len,Aua,lZ9]
    have E:(gr++σ).set 0 (r,Res.obj (.cells (over (cs++rs) (xs.length*Dat.k UInt8+0) cs').toArray el (0,0)))=((r,Res.obj (.cells ((cs++cs')++(cs++rs).drop (xs.length*Dat.k UInt8+cs'.length)).toArray el (0,0)))::gb)++σ:=by
     rw[f,D];rfl
    simp only[]
    rw[E]
    refine hQ _ _ ⟨fun p hp=>?_,by rw[lZ2];omega,.inr ⟨r,vc,cs++cs',_,gb,by rw[lZ2,Mw],rfl,l.append m,?_,by rw[lZ2];exact hn⟩⟩
    ·rcases Gw.1 hp with rfl|hp
     ·exact⟨_,rfl⟩
     ·exact hv.1 p (by rw[f];exact lZ5 _ hp)
    ·rw[lZ2,lZ2,lZ4,←n,l.len]
     omega
  ·show wpS C.P ρ (if xs.length+ys.length≤vc then _ else (typeInfo el).bind _) _ _
   rw[if_neg hn,Ad]
   refine Gj hi ?_
   have J:¬(((xs.length+ys.length:Nat):Int)>IntKind.i64.max∧((false=true)∨ti.bytes=0)):=by
    intro⟨d,_⟩
    have:IntKind.i64.max=9223372036854775807:=by simp[IntKind.max,IntKind.signed,IntKind.bits]
    omega
   show wpS C.P ρ (if ((xs.length+ys.length:Nat):Int)>IntKind.i64.max∧((false=true)∨ti.bytes=0) then _ else (typeInfo el).bind _) _ _
   rw[if_neg J,Ad]
   refine Gj hi ?_
   have L:¬(Builtin.nextslicecap (xs.length+ys.length) vc*ti.bytes>2^48):=by
    have d:=Alk (need:=xs.length+ys.length) (cap:=vc) (by omega)
    have f:Builtin.nextslicecap (xs.length+ys.length) vc*ti.bytes≤(2*(xs.length+ys.length)+1000)*1000:=Baa d hib
    omega
   show wpS C.P ρ (if Builtin.nextslicecap (xs.length+ys.length) vc*ti.bytes>2^48 then _ else (choose (.appendCap (xs.length+ys.length) vc el)).bind _) _ _
   rw[if_neg L,Ad]
   show (if (Question.appendCap (xs.length+ys.length) vc el).forced then _ else ∀tt,_)
   rw[if_neg (by simp[Question.forced])]
   intro tt
   have q:xs.length+ys.length≤(Question.appendCap (xs.length+ys.length) vc el).cut tt:=by simp[Question.cut]
   generalize (Question.appendCap (xs.length+ys.length) vc el).cut tt=nc at q
   show wpS C.P ρ ((typeInfo el).bind _) _ _
   rw[Ad]
   refine Gj hi ?_
   show wpS C.P ρ ((askRoom (nc*ti.bytes)).bind _) _ _
   rw[Ad]
   have N:∀{Q:Unit→Own→Prop} {σ':Own},Q () σ'→wpS C.P ρ (askRoom (nc*ti.bytes)) σ' Q:=fun hq=>by
    unfold askRoom
    split
    ·exact⟨rfl,hq⟩
    ·exact hq
   refine N ?_
   show wpS C.P ρ ((Builtin.firstCells (Dat.k UInt8) xs.length (.slice va xs.length vc)).bind _) _ _
   rw[Ad]
   refine M fun cs hcs=>?_
   show wpS C.P ρ ((Builtin.firstCells (Dat.k UInt8) ys.length (.string (bs ys))).bind _) _ _
   rw[Ad]
   refine w fun cs' m=>?_
   show wpS C.P ρ ((zeroValue el).bind _) _ _
   rw[Ad]
   refine Jz ⟨ti,hi,hz⟩ ?_
   show wpS C.P ρ ((newRow el (cs.toArray++cs'.toArray++Builtin.zeroCells z.cells (nc-(xs.length+ys.length)))).bind _) _ _
   rw[Ad]
   refine Ik fun r=>?_
   have F:(cs.toArray++cs'.toArray++Builtin.zeroCells z.cells (nc-(xs.length+ys.length)))=((cs++cs')++(Builtin.zeroCells z.cells (nc-(xs.length+ys.length))).toList).toArray:=by
    apply Array.ext';simp
   rw[F]
   refine hQ _ ((r,Res.obj (.cells ((cs++cs')++(Builtin.zeroCells z.cells (nc-(xs.length+ys.length))).toList).toArray el (0,0)))::gr) ⟨fun p hp=>?_,by rw[lZ2];omega,.inr ⟨r,nc,cs++cs',_,gr,by rw[lZ2,Mw],rfl,hcs.append m,?_,by rw[lZ2];exact q⟩⟩
   ·rcases Gw.1 hp with rfl|hp
    ·exact⟨_,rfl⟩
    ·exact hv.1 p hp
   ·have G:(Builtin.zeroCells z.cells (nc-(xs.length+ys.length))).toList.length=(nc-(xs.length+ys.length))*Dat.k UInt8:=by
     simp[Builtin.zeroCells,hzk]
    rw[lZ2,lZ2,hcs.len,m.len,G,←Yo,←Yo]
    congr 1;omega
 exact hGo _ h
end
end
section
open Go
theorem Zc{α:Type}{P:Program}{ρ:Ro}{σ:Own}{Q:α→Own→Prop}{c:Prop}[Decidable c]{a b:Sem α}(hc:¬c)(h:wpS P ρ b σ Q):wpS P ρ (if c then a else b) σ Q:=by rw[if_neg hc];exact h
theorem Bjh{α:Type}{P:Program}{ρ:Ro}{σ:Own}{Q:α→Own→Prop}{c:Prop}[Decidable c]{a b:Sem α}(hc:c)(h:wpS P ρ a σ Q):wpS P ρ (if c then a else b) σ Q:=by rw[if_pos hc];exact h
theorem Aha(t t' ty:TypeId)(a:Addr)(n:Int):∃A B D:Sem Value,Builtin.unsafeString_ #[t,t'] ty #[.pointer (some a),.int .i64 n]=if n<0 then A else if n>IntKind.i64.max then B else if n=0 then Sem.pure (.string .empty) else
  (elemOf t).bind fun u=>(variablesAt a u n.toNat).bind fun ok=>if ok=true then (loadBytes a .empty n.toNat).bind fun s=>(freeze a n.toNat).bind fun _=>Sem.pure (.string s) else D:=⟨_,_,_,rfl⟩
theorem Bln{α:Type}[Dat α]{ρ:Ro}{el:TypeId}{v:Value}{xs:List α}{gr:Own}(h:Grow ρ el v xs gr)(hx:xs≠[]):∃cap,v = .slice (some ⟨Ahx v,0,none⟩) xs.length cap∧cap≠0:=by
 rcases h.2.2 with⟨_,a⟩|⟨r,cap,cs,rs,gb,b,a,c,d,e⟩
 ·exact absurd a hx
 ·subst b
  refine⟨cap,rfl,?_⟩
  have:0<xs.length:=Azs.2 hx
  omega
theorem Avz{P:Program}{ρ ρ₀:Ro}{e:Env}{ty t el:TypeId}{x:Operand}{v:Value}{xs:List UInt8}{gr:Own}(hG:Grow ρ₀ el v xs gr)(hn:xs≠[])(hx:Af e x=v):Yld P ρ e (.call ⟨.builtin .unsafeSliceData,#[x],#[t]⟩) ty (.pointer (some ⟨Ahx v,0,none⟩)):=by
 obtain⟨cap,a,b⟩:=Bln hG hn
 generalize Ahx v=bl at a ⊢
 subst a
 refine Mc (args:=[x]) (vs:=[.slice (some ⟨bl,0,none⟩) xs.length cap]) (s:=fun _=>Builtin.unsafeSliceData_ #[t] ty #[.slice (some ⟨bl,0,none⟩) xs.length cap]) (by simp[hx]) (fun _=>rfl) fun ρ' σ cs _=>?_
 show wpS P ρ' (if cap≠0 then (Sem.pure (Value.pointer (some ⟨bl,0,none⟩))) else _) σ _
 rw[if_pos b]
 exact⟨rfl,rfl⟩
theorem Bsh{n cap:Nat}(h:n≤cap):liesAt Tryz.prog Tryz.prog.depth 5 (cap/Tryz.prog.cellsOf 5) 0 5 n=true:=by
 have a:(Tryz.prog.depth==0)=false:=by kernel_rfl
 have hs:sameLayout Tryz.prog Tryz.prog.depth 5 5=true:=by kernel_rfl
 have hc:Tryz.prog.cellsOf 5=1:=by kernel_rfl
 rw[hc,Nat.div_one]
 generalize hD:Tryz.prog.depth=D at *
 cases D with
 | zero=>cases a
 | succ d =>
  have hr:rowAt Tryz.prog (sameLayout Tryz.prog (d+1) · 5) (d+1) 5 cap 0 n=true:=by
   unfold rowAt
   simp only[hc,hs]
   simp[h]
  unfold liesAt
  rw[hD,hr];rfl
theorem Bnx{P:Program}{ρ:Ro}{σ:Own}{r:Nat}{o:Obj}(ho:Has ρ σ r o){Q:ByteArray→Own→Prop}:∀(l:List UInt8) (off:Nat) (acc:ByteArray),
  (∀j c,l[j]?=some c→Gy o (off+j)=some (.int .u8 (c.toNat:Int)))→Q (acc++bs l) σ→wpS P ρ (loadBytes ⟨r,off,none⟩ acc l.length) σ Q
 | [],off,acc,_,h=>by
  have e:acc++bs []=acc:=by apply ByteArray.ext;rw[ByteArray.data_append];simp[bs]
  rw[e]at h;exact h
 | c::l,off,acc,hc,h=>by
  show wpS P ρ ((load ⟨r,off,none⟩).bind _) σ Q
  rw[Ad]
  refine⟨rfl,rfl,o,_,ho,by simpa using hc 0 c rfl,?_⟩
  show wpS P ρ (loadBytes ⟨r,off+1,none⟩ (acc.push ((c.toNat:Int).toNat).toUInt8) l.length) σ Q
  refine Bnx ho l (off+1) _ (fun j d hd=>?_) ?_
  ·have:=hc (j+1) d (by simpa using hd)
   rw[show off+1+j=off+(j+1) by omega];exact this
  ·have e:acc.push ((c.toNat:Int).toNat).toUInt8++bs l=acc++bs (c::l):=by
    apply ByteArray.ext
    rw[ByteArray.data_append,ByteArray.data_append]
    show (acc.data.push _)++l.toArray=acc.data++(c::l).toArray
    rw[show ((c.toNat:Int).toNat).toUInt8=c by rw[Aud];exact UInt8.ofNat_toNat]
    apply Array.ext'
    simp
   rw[e];exact h
section
variable{C:Ctx}{e:Env}{ds:List Deferred}{ρ:Ro}{σ:Own}{K:Value→List Deferred→Ro→Own→Prop}{rd:Option Nat}{dd:Option Tmp}
variable{ty:TypeId}{pos:String}{af:Array Edge}{g:Option (Nat×Bool)}{x y:Operand}{v:Value}{t t':TypeId}
theorem Alj{xs:List UInt8}{gr:Own}{el et:TypeId}(hT:C.P.underlying t=some (.pointer et))(hn:xs≠[])(hG:Grow ρ el v xs gr)(hx:Af e x = .pointer (some ⟨Ahx v,0,none⟩))(hy:Af e y = .int .i64 (xs.length:Int))
  (hl:∀n cap,n≤cap→liesAt C.P C.P.depth el (cap/C.P.cellsOf el) 0 et n=true)
  (h:∀gr':Own,(∀p∈gr',∃o,p.2=Res.obj o)→K (.string (bs xs)) ds ρ (gr'++σ)):wpS C.P ρ (execOp (Af e) ⟨dd,.call ⟨.builtin .unsafeString,#[x,y],#[t,t']⟩,ty,pos,af,g⟩) (gr++σ) (NextH C K rd ds ρ):=by
 have m:(#[x,y]:Array Operand).map (Af e) = #[.pointer (some ⟨Ahx v,0,none⟩),.int .i64 (xs.length:Int)]:=by simp[hx,hy]
 show wpS C.P ρ (builtin .unsafeString #[t,t'] ty ((#[x,y]:Array Operand).map fun | .const _=>true|_=>false) ((#[x,y]:Array Operand).map (Af e))) _ _
 rw[m]
 show wpS C.P ρ ((Builtin.unsafeString_ #[t,t'] ty #[.pointer (some ⟨Ahx v,0,none⟩),.int .i64 (xs.length:Int)]).bind fun v=>Sem.pure (Next.value v)) _ _
 refine Gd ?_
 have w:0<xs.length:=Azs.2 hn
 have hlt:=hG.2.1
 rcases hG.2.2 with⟨_,a⟩|⟨r,cap,cs,rs,gb,i,a,b,k,l⟩
 ·exact absurd a hn
 ·have hb:Ahx v=r:=by rw[i];rfl
  rw[hb]
  have ho:Has ρ (gr++σ) r (.cells (cs++rs).toArray el (0,0)):=.inr (by rw[a];simp)
  have hcl:cs.length=xs.length:=by rw[b.len];exact Ajj _
  have hcs:cs=xs.map fun c:UInt8=>Value.int .u8 (c.toNat:Int):=Baj b
  have q:(cs++rs).length=cap:=by rw[k];exact Ajj _
  obtain⟨A,B,D,key⟩:=Aha t t' ty ⟨r,0,none⟩ (xs.length:Int)
  rw[key]
  refine Zc (c:=(xs.length:Int)<0) (by omega) ?_
  refine Zc (c:=(xs.length:Int)>IntKind.i64.max) (by show ¬_>(9223372036854775807:Int);omega) ?_
  refine Zc (c:=(xs.length:Int)=0) (by omega) ?_
  show wpS C.P ρ ((elemOf t).bind fun u=>(variablesAt ⟨r,0,none⟩ u (xs.length:Int).toNat).bind _) _ _
  rw[Ad]
  show wpS C.P ρ ((underlying t).bind _) _ _
  rw[Ad]
  refine Az hT ?_
  show wpS C.P ρ ((variablesAt ⟨r,0,none⟩ et (xs.length:Int).toNat).bind _) _ _
  rw[Ad]
  unfold variablesAt
  show wpS C.P ρ (program.bind _) _ _
  rw[Ad]
  show wpS C.P ρ ((shape r).bind _) _ _
  rw[Ad]
  refine⟨_,ho,?_⟩
  simp only[Xk]
  rw[show (cs++rs).toArray.size=cap by rw[←q];simp,Aud]
  refine Bjh (c:=liesAt C.P C.P.depth el (cap/C.P.cellsOf el) 0 et xs.length=true) (hl _ _ l) ?_
  show wpS C.P ρ ((loadBytes ⟨r,0,none⟩ .empty xs.length).bind _) _ _
  rw[Ad]
  refine Bnx ho xs 0 _ (fun j c hj=>?_) ?_
  ·simp only[Gy,Xz,Pe]
   rw[Ajl (by rw[hcl];exact(lZ8.1 hj).1),hcs,Tp,hj];rfl
  ·have d:ByteArray.empty++bs xs=bs xs:=by apply ByteArray.ext;rw[ByteArray.data_append];show #[]++_=_;simp
   rw[d]
   show wpS C.P ρ ((freeze ⟨r,0,none⟩ xs.length).bind _) _ _
   rw[Ad]
   refine .inr ⟨by omega,0,_,el,0,0,by rw[a];rfl,?_⟩
   show K (.string (bs xs)) ds ρ _
   have f:∀o:Res,(gr++σ).set 0 (r,o)=((r,o)::gb)++σ:=fun o=>by rw[a];rfl
   rw[f]
   exact h _ fun p hp=>by
    rcases Gw.1 hp with rfl|hp
    ·exact⟨_,rfl⟩
    ·exact hG.1 p (by rw[a];exact lZ5 _ hp)
end
end
section
open Go
variable{mn:Bool}{X:Frame→List Frame→Ro→Own→Cy→Prop}{ρ:Ro}{σ:Own}
theorem Acx{r:Nat}{xs:List UInt8}{vb:Value}{gb:Own}(hb:Grow ρ 5 vb xs gb):CallsH (CX mn X) 84 #[pV r] ρ ((r,oC #[.pointer none,vb] 83)::(gb++σ)) (fun w ρ' σ'=>ρ'=ρ∧σ'=(r,oC #[pV r,vb] 83)::(gb++σ)∧w = .tuple #[]):=by
 refine Bq 20 [] Bwp rfl fun Q e b=>w_q rfl rfl fun d c=>Av (pV r) (l_v (Ck rfl) (l_v (Ce Bun rfl (Ab Bvz)) (Arv (Dt (i:=0) (v:=.pointer none) ⟨_,Bvd,rfl⟩ rfl rfl rfl ?_))))
 refine l_v (Avy (a:=none) Bvd rfl rfl) (l_k c (Co rfl rfl (Ag rfl rfl (Av (pV r) (Av (pV r) (Arv (Bdv (i:=0) Bvd Tryz.underlying174 ⟨_,Ab Bwo,rfl⟩ (by decide) rfl rfl nL ?_)))))))
 refine Ajs rfl Tryz.func114 rfl rfl rfl rfl (Agn rfl) Bfn (Arv (Bne (i:=0) Tryz.underlying174 Bvd ⟨_,Ab Bwo,rfl⟩ (by decide) rfl rfl (by kernel_rfl) ?_))
 refine l_v (Ck rfl) (l_v (Ce Bun rfl (Ab Bvz)) (Cx rfl (Cz (j:=0) (v:=pV r) ⟨_,Ab Bvz,rfl⟩ rfl rfl rfl rfl nL ?_)))
 apply Ac
 refine b ⟨rfl,rfl,rfl⟩
theorem Aqc{r:Nat}{xs:List UInt8}{vb:Value}{gb:Own}(hb:Grow ρ 5 vb xs gb):CallsH (CX mn X) 84 #[pV r] ρ ((r,oC #[pV r,vb] 83)::(gb++σ)) (fun w ρ' σ'=>ρ'=ρ∧σ'=(r,oC #[pV r,vb] 83)::(gb++σ)∧w = .tuple #[]):=by
 refine Bq 20 [] Bwp rfl fun Q g b=>w_q rfl rfl fun e c=>Av (pV r) (l_v (Ck rfl) (l_v (Ce Bun rfl (Ab Bvz)) (Arv (Dt (i:=0) (v:=pV r) ⟨_,Bvd,rfl⟩ rfl rfl rfl ?_))))
 refine l_v (Avy (a:=some ⟨r,0,none⟩) Bvd rfl rfl) (l_k c (Cg rfl rfl (w_q rfl rfl fun f d=>Av (pV r) (l_v (Ck rfl) (l_v (Ce Bun rfl (Ab Bvz)) (Arv (Dt (i:=0) (v:=pV r) ⟨_,Bvd,rfl⟩ rfl rfl rfl ?_)))))))
 refine Av (pV r) (l_v (Bnm Bvd ⟨_,Ab Bwo,rfl⟩ (by decide) rfl rfl) (l_k d (Cg rfl rfl (Al (b ⟨rfl,rfl,rfl⟩)))))
theorem Aic{r:Nat}{xs:List UInt8}{vb:Value}{gb:Own}{s:List UInt8}(hb:Grow ρ 5 vb xs gb)(hx:xs.length+s.length≤1000000000):CallsH (CX mn X) 31 #[pV r,.string (bs s)] ρ ((r,oC #[.pointer none,vb] 83)::(gb++σ)) (fun w ρ' σ'=>ρ'=ρ∧∃(v':Value) (gr:Own),w = .tuple #[iV (s.length:Int),.nilIface]∧Grow ρ 5 v' (xs++s) gr∧σ'=(r,oC #[pV r,v'] 83)::(gr++σ)):=by
 refine Bq 19 [4,5] Bvu rfl fun Q e y=>w_q rfl rfl fun n g=>Au (iV 0) (Au .nilIface (Arx rfl rfl g fun q h=>Av (pV r) (Bj (Bxk Asc) (Bj (Bxk Asd) (Arv (Cm (vs:=[pV r]) (Acx (r:=r) hb) Bwp rfl rfl ⟨rfl,trivial⟩ fun z B C d=>?_))))))
 obtain⟨a,b,f⟩:=d
 replace a:=a.symm;replace b:=b.symm;subst a b f
 refine Arx rfl rfl h fun t k=>Av (pV r) (Av (pV r) (l_v (Ck rfl) (l_v (Ce Bun rfl (Ab Bus)) (Arv (Dt (i:=0) (v:=vb) ⟨_,Btu,rfl⟩ rfl rfl rfl ?_)))))
 refine Av (.string (bs s)) (Bj (Bxk Asc) (Arv (Agu (σ:=(r,oC #[pV r,vb] 83)::σ) (gr:=gb) (xs:=xs) (ys:=s) Btu Btr (Ab Btw) rfl nL rfl rfl rfl rfl hb (by omega) fun m x c=>?_)))
 refine l_v (Ck rfl) (l_v (Ce Bun rfl (Ab Bus)) (Bj (Bxk Asd) (Cx rfl (Cz (j:=0) (v:=m) ⟨_,Ab Bus,rfl⟩ rfl rfl (Grow.single c) rfl nL ?_))))
 refine Arx rfl rfl k fun u l=>Av (.string (bs s)) (l_v (Dy Btr (p:=s) rfl) (Au (iV (s.length:Int)) (Au .nilIface (l_k l (Aq (e ⟨rfl,_,_,Mp (r:=4) (r':=5) (rs:=[]) (v:=iV (s.length:Int)) (v':=.nilIface) (vs:=[]) ⟨rfl,rfl,trivial⟩,c,rfl⟩))))))
theorem Qi{r:Nat}{xs:List UInt8}{vb:Value}{gb:Own}{s:List UInt8}(hb:Grow ρ 5 vb xs gb)(hx:xs.length+s.length≤1000000000):CallsH (CX mn X) 31 #[pV r,.string (bs s)] ρ ((r,oC #[pV r,vb] 83)::(gb++σ)) (fun w ρ' σ'=>ρ'=ρ∧∃(v':Value) (gr:Own),w = .tuple #[iV (s.length:Int),.nilIface]∧Grow ρ 5 v' (xs++s) gr∧σ'=(r,oC #[pV r,v'] 83)::(gr++σ)):=by
 refine Bq 19 [4,5] Bvu rfl fun Q e y=>w_q rfl rfl fun n g=>Au (iV 0) (Au .nilIface (Arx rfl rfl g fun q h=>Av (pV r) (Bj (Bxk Asc) (Bj (Bxk Asd) (Arv (Cm (vs:=[pV r]) (Aqc (r:=r) hb) Bwp rfl rfl ⟨rfl,trivial⟩ fun z B C d=>?_))))))
 obtain⟨a,b,f⟩:=d
 replace a:=a.symm;replace b:=b.symm;subst a b f
 refine Arx rfl rfl h fun t k=>Av (pV r) (Av (pV r) (l_v (Ck rfl) (l_v (Ce Bun rfl (Ab Bus)) (Arv (Dt (i:=0) (v:=vb) ⟨_,Btu,rfl⟩ rfl rfl rfl ?_)))))
 refine Av (.string (bs s)) (Bj (Bxk Asc) (Arv (Agu (σ:=(r,oC #[pV r,vb] 83)::σ) (gr:=gb) (xs:=xs) (ys:=s) Btu Btr (Ab Btw) rfl nL rfl rfl rfl rfl hb (by omega) fun m x c=>?_)))
 refine l_v (Ck rfl) (l_v (Ce Bun rfl (Ab Bus)) (Bj (Bxk Asd) (Cx rfl (Cz (j:=0) (v:=m) ⟨_,Ab Bus,rfl⟩ rfl rfl (Grow.single c) rfl nL ?_))))
 refine Arx rfl rfl k fun u l=>Av (.string (bs s)) (l_v (Dy Btr (p:=s) rfl) (Au (iV (s.length:Int)) (Au .nilIface (l_k l (Aq (e ⟨rfl,_,_,Mp (r:=4) (r':=5) (rs:=[]) (v:=iV (s.length:Int)) (v':=.nilIface) (vs:=[]) ⟨rfl,rfl,trivial⟩,c,rfl⟩))))))
theorem Bon{r:Nat}{xs:List UInt8}{vb:Value}{gb:Own}(hb:Grow ρ 5 vb xs gb):CallsH (CX mn X) 35 #[pV r] ρ ((r,oC #[pV r,vb] 83)::(gb++σ)) (fun w ρ' σ'=>ρ'=ρ∧σ'=(r,oC #[pV r,vb] 83)::(gb++σ)∧w=iV (xs.length:Int)):=by
 refine Bq 8 [2] Tryz.func35 rfl fun Q a g=>w_q rfl rfl fun d b=>Au (iV 0) (Arx rfl rfl b fun e c=>Av (pV r) (l_v (Ck rfl) (l_v (Ce Bun rfl (Ab Bus)) (Arv (Dt (i:=0) (v:=vb) ⟨_,Btu,rfl⟩ rfl rfl rfl ?_)))))
 have f:=Grow.len hb
 refine l_v (Ajw (el':=5) Btu rfl hb) (Au (iV (xs.length:Int)) (l_k c (Aq (a ⟨rfl,rfl,rfl⟩))))
theorem Anc{r:Nat}{xs:List UInt8}{vb:Value}{gb:Own}(hb:Grow ρ 5 vb xs gb)(hne:xs≠[]):CallsH (CX mn X) 36 #[pV r] ρ ((r,oC #[pV r,vb] 83)::(gb++σ)) (rP ρ σ (.string (bs xs))):=by
 refine Bq 14 [2] Tryz.func36 rfl fun Q b j=>w_q rfl rfl fun e c=>Au (.string (ByteArray.mk #[])) (Asa c fun f d=>Ox ((r,oC #[pV r,vb] 83)::[]) [0,1,2,3,4,5,6,7,8,9,10,11] (by kernel_rfl) rfl rfl (Cu 0 (zT 1 11) rfl ⟨Bxm,sB⟩ rfl (Yld.o (Ah (v:=pV r) rfl)) (Cu 1 (zT 2 10) rfl ⟨Bxm,sB⟩ rfl (Yld.o (Ck rfl)) (Cu 2 (zT 3 9) rfl ⟨Bxm,sB⟩ rfl (Yld.o (Ce Bun rfl (Ab Bus))) (Cu 3 (zT 4 8) rfl ⟨Bxm,sB⟩ rfl (Fl (v:=vb) ⟨_,Btu,rfl⟩ rfl mC rfl) (Cu 5 [o1,o1,o1,o1,o0,o1,o0,o0,o0,o0,o0,o0] rfl ⟨Bxm,sB⟩ rfl (Yld.o (Ah (v:=pV r) rfl)) (Cu 6 [o1,o1,o1,o1,o0,o1,o1,o0,o0,o0,o0,o0] rfl ⟨Bxm,sB⟩ rfl (Yld.o (Ck rfl)) (Cu 7 [o1,o1,o1,o1,o0,o1,o1,o1,o0,o0,o0,o0] rfl ⟨Bxm,sB⟩ rfl (Yld.o (Ce Bun rfl (Ab Bus))) (Cu 8 [o1,o1,o1,o1,o0,o1,o1,o1,o1,o0,o0,o0] rfl ⟨Bxm,sB⟩ rfl (Fl (v:=vb) ⟨_,Btu,rfl⟩ rfl mC rfl) ?_)))))))))
 have g:=Grow.len hb
 refine Cu 9 [o1,o1,o1,o1,o0,o1,o1,o1,o1,o1,o0,o0] rfl ⟨Bxm,sB⟩ rfl (Yld.o (Ajw (el':=5) Btu rfl hb)) (Dz 4 (zT 10 2) rfl ⟨Bxm,sB⟩ rfl (Yld.o (Avz hb hne rfl)) ⟨Bxm,sB⟩ (Nc Asc (Nd 10 (zT 11 1) rfl rfl (Alj (σ:=(r,oC #[pV r,vb] 83)::σ) (gr:=gb) (v:=vb) (xs:=xs) Tryz.underlying165 hne hb rfl rfl (fun _ _ h=>Bsh h) fun i a=>⟨⟨Bxm,sB⟩,?_⟩))))
 refine Dz 11 (zT 12 0) rfl ⟨Bxm,sB⟩ rfl (Yld.o (Cp (v:=.string (bs xs)) rfl)) ⟨Bxm,sB⟩ (Us rfl (kk d ?_))
 refine Aj (drops a) (Aj Bxi (Aq (b (rT (.string (bs xs)) ?_))))
 rfl
end
section
open Go
section
variable{e:Env}{ρ:Ro}{xs:Array Operand}{vs:Array Value}{tys:Array TypeId}{ty:TypeId}{f:FuncId}{fn:Func}{G:Array Value→Sem Value}
theorem Bat{P:Program}{σ:Own}{Q:Next→Own→Prop}(hf:P.funcs[f]?=some fn)(hn:(fn.name == "runtime.NumGoroutine")=false)(hb:fn.body.isNone=true)(hx0:Extern.findNext fn=none)(he:Extern.find fn=some G)
  (h:wpS P ρ (G vs) σ (fun v σ'=>Q (.value v) σ')):wpS P ρ (callFunc f vs) σ Q:=by
 unfold callFunc
 show wpS P ρ ((program).bind _) σ Q
 rw[Ad]
 show wpS P ρ (match P.funcs[f]? with|none=>_|some fn=>_) σ Q
 rw[hf]
 simp only[hn,hb]
 show wpS P ρ ((Go.mark (.extern f)).bind _) σ Q
 rw[Ad]
 refine⟨trivial,?_⟩
 simp only[hx0,he]
 show wpS P ρ ((G vs).bind fun v=>Sem.pure (Next.value v)) σ Q
 rw[Ad]
 exact h
theorem Bfl(e:Env)(hx:xs.map (Af e)=vs)(d:Option Tmp)(pos:String)(af:Array Edge)(g:Option (Nat×Bool)):execOp (Af e) ⟨d,.call ⟨.value (.func f),xs,tys⟩,ty,pos,af,g⟩=callFunc f vs:=by
 show callFunc f ((#[]++xs.map (Af e)) ++ #[])=_
 rw[Amn,Ajn,hx]
theorem Agw{C:Ctx}{ds:List Deferred}{σ:Own}{K:Value→List Deferred→Ro→Own→Prop}{rd:Option Nat}{dd:Option Tmp}{pos:String}{af:Array Edge}{g:Option (Nat×Bool)}
  (hf:C.P.funcs[f]?=some fn) (hn:(fn.name == "runtime.NumGoroutine")=false) (hb:fn.body.isNone=true) (hx0:Extern.findNext fn=none) (he:Extern.find fn=some G) (hx:xs.map (Af e)=vs)
  (h:wpS C.P ρ (G vs) σ (fun v σ'=>K v ds ρ σ')):wpS C.P ρ (execOp (Af e) ⟨dd,.call ⟨.value (.func f),xs,tys⟩,ty,pos,af,g⟩) σ (NextH C K rd ds ρ):=by
 rw[Bfl e hx]
 exact Bat hf hn hb hx0 he h
end
theorem Auy{α:Type}[Dat α]{ρ:Ro}:∀{xs ys:List α} {cs:List Value},Rows ρ cs (xs++ys)→∃c1 c2,cs=c1++c2∧Rows ρ c1 xs∧Rows ρ c2 ys
 | [],ys,cs,h=>⟨[],cs,rfl,rfl,h⟩
 | x::xs,ys,cs,⟨c1,c2,h1,h2,h3⟩=>by
  obtain⟨d1,d2,g1,g2,g3⟩:=Auy (xs:=xs) h3
  exact⟨c1++d1,d2,by rw[h1,g1,lZ9],⟨c1,d1,rfl,h2,g2⟩,g3⟩
theorem Aip:∀(n t:Nat) (acc:Array Value),∃ys:List UInt8,ys.length=n∧(Extern.BytealgMakeNoZero.digits n t acc)=acc++(ys.map fun c:UInt8=>Value.int .u8 (c.toNat:Int)).toArray
 | 0,t,acc=>⟨[],rfl,by simp[Extern.BytealgMakeNoZero.digits]⟩
 | n+1,t,acc=>by
  obtain⟨ys,h1,h2⟩:=Aip n (t/256) (acc.push (.int .u8 (Int.ofNat (t%256))))
  refine⟨UInt8.ofNat (t%256)::ys,by simp[h1],?_⟩
  show Extern.BytealgMakeNoZero.digits n (t/256) (acc.push (.int .u8 (Int.ofNat (t%256))))=_
  rw[h2]
  apply Array.ext'
  have:(UInt8.ofNat (t%256)).toNat=t%256:=by simp
  simp[this]
theorem Bnf{P:Program}{ρ:Ro}{σ:Own}{Q:Value→Own→Prop}{ps:Array TypeId}{t el:TypeId}{n:Nat}(hT:P.underlying t=some (.slice el))(hn:n<2^30)
  (h:∀v gr (ys:List UInt8),ys.length=n→Grow ρ el v ys gr→Q v (gr++σ)):wpS P ρ (Extern.BytealgMakeNoZero.makeNoZero ps #[t] #[.int .i64 (n:Int)]) σ Q:=by
 unfold Extern.BytealgMakeNoZero.makeNoZero
 show wpS P ρ ((underlying t).bind _) σ Q
 rw[Ad]
 refine Az hT ?_
 simp only[]
 have a:¬((decide ((n:Int)<0)||decide ((n:Int)>2^48))=true):=by
  rw[Hn (by omega),Hn (by omega)];simp
 rw[if_neg a]
 show wpS P ρ ((choose (.appendCap (n:Int).toNat 0 el)).bind _) σ Q
 rw[Ad,Aud]
 show (if (Question.appendCap n 0 el).forced then _ else ∀tt,_)
 rw[if_neg (by simp[Question.forced])]
 intro tt
 have e:n≤(Question.appendCap n 0 el).cut tt:=by simp[Question.cut]
 generalize (Question.appendCap n 0 el).cut tt=nc at e
 show wpS P ρ ((askRoom nc).bind _) σ Q
 rw[Ad]
 have f:∀{Q:Unit→Own→Prop} {σ':Own},Q () σ'→wpS P ρ (askRoom nc) σ' Q:=fun hq=>by
  unfold askRoom
  split
  ·exact⟨rfl,hq⟩
  ·exact hq
 refine f ?_
 show wpS P ρ ((choose (.extern "internal/bytealg.MakeNoZero.bytes" 0)).bind _) σ Q
 rw[Ad]
 have hch:∀{q:Question} {Q:Nat→Own→Prop} {σ':Own},(∀t,Q t σ')→wpS P ρ (choose q) σ' Q:=fun {q} {Q} {σ'} hq=>by
  show (if q.forced then _ else ∀t,_)
  split
  ·exact hq _
  ·exact fun t=>hq _
 refine hch fun bytes=>?_
 show wpS P ρ ((newRow el (Extern.BytealgMakeNoZero.digits nc bytes #[])).bind _) σ Q
 rw[Ad]
 refine Ik fun r=>?_
 obtain⟨ys,b,d⟩:=Aip nc bytes #[]
 rw[d,Ajn]
 refine h (.slice (some ⟨r,0,none⟩) n nc) [_] (ys.take n) (by rw[lZ6];omega) ⟨fun p hp=>?_,by rw[lZ6];omega,.inr ⟨r,nc,(ys.take n).map fun c:UInt8=>Value.int .u8 (c.toNat:Int),(ys.drop n).map fun c:UInt8=>Value.int .u8 (c.toNat:Int),[],?_,?_,Ug _,?_,?_⟩⟩
 ·rw[Qp]at hp;subst hp;exact⟨_,rfl⟩
 ·rw[lZ6,Ano (by omega)]
 ·rw[←Ny,Agz]
 ·rw[←Ny,Agz,Xe,b];exact(Ajj _).symm
 ·rw[lZ6];omega
section
variable{C:Ctx}{e:Env}{ds:List Deferred}{ρ:Ro}{σ:Own}{K:Value→List Deferred→Ro→Own→Prop}{rd:Option Nat}{dd:Option Tmp}
variable{ty:TypeId}{pos:String}{af:Array Edge}{g:Option (Nat×Bool)}{x y:Operand}{v:Value}{t t':TypeId}
theorem Bsx{f:FuncId}{fn:Func}{tys:Array TypeId}{el:TypeId}{n:Nat}(hf:C.P.funcs[f]?=some fn)(hn:(fn.name == "runtime.NumGoroutine")=false)(hb:fn.body.isNone=true)(hx0:Extern.findNext fn=none)
  (he:Extern.find fn=some (Extern.BytealgMakeNoZero.makeNoZero fn.params fn.resultTypes)) (hr:fn.resultTypes = #[t]) (hT:C.P.underlying t=some (.slice el)) (hx:Af e x = .int .i64 (n:Int)) (hlt:n<2^30)
  (h:∀v gr (ys:List UInt8),ys.length=n→Grow ρ el v ys gr→K v ds ρ (gr++σ)):wpS C.P ρ (execOp (Af e) ⟨dd,.call ⟨.value (.func f),#[x],tys⟩,ty,pos,af,g⟩) σ (NextH C K rd ds ρ) :=
 Agw hf hn hb hx0 he (Agn hx) (by rw[hr];exact Bnf hT hlt h)
theorem Grow.part{α:Type}[Dat α]{el:TypeId}{a:Option Addr}{len cap h:Nat}{xs:List α}{gr:Own}(hG:Grow ρ el (.slice a len cap) xs gr)(hh:h≤xs.length):Grow ρ el (.slice a h cap) (xs.take h) gr:=by
 rcases hG.2.2 with⟨d,e⟩|⟨r,k,cs,rs,gb,d,e,i,j,m⟩
 ·subst e
  have:h=0:=by simpa using hh
  subst this
  cases d
  exact⟨hG.1,by simp,.inl ⟨rfl,rfl⟩⟩
 ·cases d
  obtain⟨b,c,f,g,l⟩:∃b c,cs=b++c∧Rows ρ b (xs.take h)∧Rows ρ c (xs.drop h):=by
   have:=i
   rw[←Agz h xs]at this
   exact Auy this
  refine⟨hG.1,by have:=hG.2.1;rw[lZ6];omega,.inr ⟨r,cap,b,c++rs,gb,by rw[lZ6,Ano hh],by rw[e,f,lZ9],g,by rw[←j,f,lZ9],by rw[lZ6];omega⟩⟩
theorem Alw{P:Program}{α:Type}[Dat α]{xs:List α}{gr:Own}{el:TypeId}{k:IntKind}{q:Int}(h:Nat)(hT:P.underlying t=some (.slice el))(hE:∃i,P.info? el=some i∧i.size=Dat.k α)(hx:Af e x=v)(hv:Grow ρ el v xs gr)(hy:Af e y = .int k q)(hq:q=(h:Int))(hh:h≤xs.length) :
  ∃w,Grow ρ el w (xs.take h) gr∧Yld P ρ e (.slice t x none (some y) none) ty w:=by
 obtain⟨a,len,cap,b,c,d⟩:∃a len cap,v = .slice a len cap∧len=xs.length∧len≤cap:=by
  rcases hv.2.2 with⟨b,c⟩|⟨r,cap,cs,rs,gb,b,c,d,g,f⟩
  ·exact⟨none,0,0,b,by simp[c],Jd _⟩
  ·exact⟨_,_,_,b,rfl,f⟩
 subst b
 refine⟨_,hv.part hh,Mt (s:=Instr.sliceAt t (Af e x) none (some (Af e y)) none) (fun _ _ _ _=>rfl) fun ρ' σ _=>?_⟩
 rw[hx,hy,hq]
 show wpS P ρ' ((underlying t).bind _) σ _
 rw[Ad]
 refine Az hT ?_
 show wpS P ρ' ((underlying t).bind _) σ _
 rw[Ad]
 refine Az hT ?_
 simp only[]
 show wpS P ρ' ((Instr.sliceBounds true len cap none (some (.int k h)) none).bind _) σ _
 have hb:Instr.sliceBounds true len cap none (some (.int k (h:Int))) none=pure (0,h,cap):=by
  show (do let m ←pure cap;let hh ←Instr.sliceBound (.int k (h:Int)) m _;let l ←pure 0;pure (l,hh,m):Sem _)=_
  have:Instr.sliceBound (.int k (h:Int)) cap .sliceAcap=pure h:=by
   show (if 0≤(h:Int)∧(h:Int)≤cap then pure (h:Int).toNat else _)=_
   rw[if_pos (by omega)];simp
  show (Instr.sliceBound (.int k (h:Int)) cap .sliceAcap).bind _=_
  rw[this];rfl
 rw[hb]
 show wpS P ρ' ((sizeOf el).bind _) σ _
 rw[Ad]
 refine Dx hE ⟨?_,rfl⟩
 by_cases hc:cap=0
 ·simp[hc]
 ·cases a with
  | none=>simp[hc]
  | some ad=>simp[hc,Addr.add]
/-- Nothing is copied to the beginning of a slice. -/
theorem Bnk{P:Program}{ty:TypeId}{t1 t2 el:TypeId}{a:Option Addr}{cap k:Nat}(hT:P.underlying t1=some (.slice el))(hE:∃i,P.info? el=some i∧i.size=k)(hx:Af e x = .slice a 0 cap)(hy:Af e y = .slice none 0 0):Yld P ρ e (.call ⟨.builtin .copy,#[x,y],#[t1,t2]⟩) ty (.int .i64 0):=by
 refine Mc (args:=[x,y]) (vs:=[.slice a 0 cap,.slice none 0 0]) (s:=fun _=>Builtin.copy_ #[t1,t2] ty #[.slice a 0 cap,.slice none 0 0]) (by simp[hx,hy]) (fun _=>rfl) fun ρ' σ cs _=>?_
 unfold Builtin.copy_
 show wpS P ρ' ((underlying t1).bind _) σ _
 rw[Ad]
 refine Az hT ?_
 simp only[]
 show wpS P ρ' ((sizeOf el).bind _) σ _
 rw[Ad]
 refine Dx hE ?_
 cases a<;>exact⟨rfl,rfl⟩
theorem Bnj{P:Program}{α:Type}[Dat α]{ty:TypeId}{t1 t2 el:TypeId}{gr:Own}{k:Nat}(hT:P.underlying t1=some (.slice el))(hE:∃i,P.info? el=some i∧i.size=k)(hG:Grow ρ el v ([]:List α) gr)(hx:Af e x=v)(hy:Af e y = .slice none 0 0):Yld P ρ e (.call ⟨.builtin .copy,#[x,y],#[t1,t2]⟩) ty (.int .i64 0):=by
 rcases hG.2.2 with⟨a,b⟩|⟨r,cap,cs,rs,gb,a,b,c,d,f⟩<;>subst a<;>exact Bnk hT hE hx hy
theorem Bjl{P:Program}{ty:TypeId}{el:TypeId}{a:Option Addr}{n k:Nat}(hT:P.underlying t=some (.slice el))(hx:Af e x = .slice a n k):Yld P ρ e (.call ⟨.builtin .cap,#[x],#[t]⟩) ty (.int .i64 (k:Int)):=by
 refine Mc (args:=[x]) (vs:=[.slice a n k]) (s:=fun _=>Builtin.cap_ #[t] ty #[.slice a n k]) (by simp[hx]) (fun _=>rfl) fun ρ' σ cs _=>?_
 show wpS P ρ' ((underlying t).bind _) σ _
 rw[Ad]
 refine Az hT ?_
 exact⟨rfl,rfl⟩
end
end
section
open Go
theorem Bjs:Fw Tryz.prog 83 (.agg #[.pointer none,.slice none 0 0]):=⟨_,Ab Bwo,rfl⟩
theorem Att:∀{ws:List (List UInt8)},ws≠[]→(Dr ws).length=ws.flatten.length+(ws.length-1)
 | [],h=>absurd rfl h
 | [w],_=>by simp[Dr]
 | w::v::ws,_=>by
  have h:=Att (ws:=v::ws) (by simp)
  show (w++32::Dr (v::ws)).length=_
  simp only[lZ2,lZ3,Bgs]at h ⊢
  omega
theorem Aem{ws:List (List UInt8)}{i:Nat}{w:List UInt8}(h:ws[i]?=some w):(ws.take (i+1)).flatten.length=(ws.take i).flatten.length+w.length:=by
 rw[Atx,h]
 simp
theorem Zm{ws:List (List UInt8)}{i:Nat}:(ws.take i).flatten.length≤ws.flatten.length:=by
 conv=>rhs;rw[←Agz i ws]
 rw[List.flatten_append,lZ2]
 omega
theorem Bge{ws:List ByteArray}{a:ByteArray}(h1:ws.length=1)(h:ws[0]?=some a):Dr (wl ws)=a.data.toList:=by
 match ws,h1 with
 | [b],_ =>
  obtain rfl:b=a:=by simpa using h
  rfl
theorem Axh{ws:List ByteArray}{a:ByteArray}(h:ws[0]?=some a):Dr (wl (ws.take 1))=a.data.toList:=by
 match ws,h with
 | b::r,h =>
  obtain rfl:b=a:=by simpa using h
  rfl
theorem Bck{ws:List ByteArray}{a:ByteArray}{j:Nat}(h:(ws.drop 1)[j]?=some a):Dr (wl (ws.take (j+1)))++[32]++a.data.toList=Dr (wl (ws.take (j+1+1))):=by
 rw[Xy]at h
 rw[Arn,Arn,Bcl (i:=j+1) (Ve (by rw[Aub];exact h)),if_neg (by omega)]
 simp
theorem Azj{ws:List ByteArray}{j:Nat}:(Dr (wl (ws.take j))).length≤(Dr (wl ws)).length:=by rw[Arn];exact Bcm
theorem Bme{n:Nat}(h0:1≤n)(h:n≤1000000000000):2≤9223372036854775807/n:=by
 rw[Nat.le_div_iff_mul_le (by omega)];omega
end
section
open Go
variable{mn:Bool}{X:Frame→List Frame→Ro→Own→Cy→Prop}{ρ:Ro}{σ:Own}
theorem Bkn{r n:Nat}(hn:n≤1000000000):CallsH (CX mn X) 115 #[pV r,iV n] ρ ((r,oC #[pV r,nS] 83)::σ) (fun w ρ' σ'=>ρ'=ρ∧w = .tuple #[]∧∃(v':Value) (gr:Own),Grow ρ 5 v' ([]:List UInt8) gr∧σ'=(r,oC #[pV r,v'] 83)::(gr++σ)):=by
 refine Bq 30 [] Tryz.func115 rfl fun Q k d=>Ai fun g e=>Ox ((r,oC #[pV r,nS] 83)::[]) [0,1,2,3,4,5,6,7,9,10,11,12,13] (by kernel_rfl) rfl rfl (Cu 0 (zT 1 15) rfl ⟨Bxm,sB⟩ rfl (Yld.o (Ah (v:=pV r) rfl)) (Cu 1 (zT 2 14) rfl ⟨Bxm,sB⟩ rfl (Yld.o (Ck rfl)) (Cu 2 (zT 3 13) rfl ⟨Bxm,sB⟩ rfl (Yld.o (Ce Bun rfl (Ab Bus))) (Cu 3 (zT 4 12) rfl ⟨Bxm,sB⟩ rfl (Fl (v:=nS) ⟨_,Btu,rfl⟩ rfl mC rfl) (Cu 4 (zT 5 11) rfl ⟨Bxm,sB⟩ rfl (Yld.o (Bjl (el:=5) Btu rfl)) (Cu 5 (zT 6 10) rfl ⟨Bxm,sB⟩ rfl (Yld.o (Wq rfl rfl (z:=0) wrE)) (Cu 6 (zT 7 9) rfl ⟨Bxm,sB⟩ rfl (Yld.o (Ah (v:=iV n) rfl)) (Cu 7 (zT 8 8) rfl ⟨Bxm,sB⟩ rfl (Yld.o (Cw (((0+n):Nat):Int))) (Cu 9 [o1,o1,o1,o1,o1,o1,o1,o1,o0,o1,o0,o0,o0,o0,o0,o0] rfl ⟨Bxm,sB⟩ rfl (Yld.o (Ah (v:=pV r) rfl)) (Cu 10 [o1,o1,o1,o1,o1,o1,o1,o1,o0,o1,o1,o0,o0,o0,o0,o0] rfl ⟨Bxm,sB⟩ rfl (Yld.o (Ck rfl)) (Cu 11 [o1,o1,o1,o1,o1,o1,o1,o1,o0,o1,o1,o1,o0,o0,o0,o0] rfl ⟨Bxm,sB⟩ rfl (Yld.o (Ce Bun rfl (Ab Bus))) (Cu 12 [o1,o1,o1,o1,o1,o1,o1,o1,o0,o1,o1,o1,o1,o0,o0,o0] rfl ⟨Bxm,sB⟩ rfl (Fl (v:=nS) ⟨_,Btu,rfl⟩ rfl mC rfl) (Cu 13 [o1,o1,o1,o1,o1,o1,o1,o1,o0,o1,o1,o1,o1,o1,o0,o0] rfl ⟨Bxm,sB⟩ rfl (Yld.o (Acn (el:=5) Btu rfl)) (Nd 8 (zT 14 2) rfl rfl (Bsx (n:=0+n) (σ:=(r,oC #[pV r,nS] 83)::σ) Tryz.func136 rfl rfl rfl rfl rfl Btu rfl (by omega) fun m i p l c=>⟨⟨Bxm,sB⟩,?_⟩)))))))))))))))
 refine Wa 14 (zT 15 1) rfl ⟨Bxm,sB⟩ rfl (Vo (Alw 0 Btu ⟨_,Ab Btw,rfl⟩ rfl c rfl rfl (by omega))) ⟨Bxm,sB⟩ fun a b=>Dz 15 (zT 16 0) rfl ⟨Bxm,sB⟩ rfl (Yld.o (Cp (v:=a) rfl)) ⟨Bxm,sB⟩ (Us rfl (kk e ?_))
 refine w_q rfl rfl fun h f=>Av a (Av (pV r) (l_v (Ck rfl) (l_v (Ce Bun rfl (Ab Bus)) (Arv (Gu (v:=nS) ⟨_,Btu,rfl⟩ rfl (Po _ mC) rfl ?_)))))
 refine l_v (Bnj Btu ⟨_,Ab Btw,rfl⟩ (Fy Ajh b) rfl rfl) (l_k f (Ag rfl rfl (Av (pV r) (Av a (l_v (Ck rfl) (l_v (Ce Bun rfl (Ab Bus)) (Bj (Bxk Asd) (Cx rfl (Cz (j:=0) (v:=a) ⟨_,Ab Bus,rfl⟩ rfl rfl (Grow.single (Fy Ajh b)) rfl nL ?_)))))))))
 apply Ac
 refine d ⟨rfl,rfl,_,_,Fy Ajh b,rfl⟩
theorem Bkf{r n:Nat}(hn:n≤1000000000):CallsH (CX mn X) 85 #[pV r,iV n] ρ ((r,oC #[.pointer none,nS] 83)::σ) (fun w ρ' σ'=>ρ'=ρ∧w = .tuple #[]∧∃(v':Value) (gr:Own),Grow ρ 5 v' ([]:List UInt8) gr∧σ'=(r,oC #[pV r,v'] 83)::(gr++σ)):=by
 refine Bq 25 [] Tryz.func85 rfl fun Q E f=>w_q rfl rfl fun x l=>Av (pV r) (Arv (Cm (vs:=[pV r]) (Acx (r:=r) Hm) Bwp rfl rfl ⟨rfl,trivial⟩ fun G I K h=>?_))
 obtain⟨b,d,j⟩:=h
 replace b:=b.symm;replace d:=d.symm;subst b d j
 refine Ary rfl rfl l fun y B m p=>Av (iV n) (l_v (Da rfl rfl) (l_k p (Cg rfl (Hn (by omega)) (Al (kk m ?_)))))
 refine Ai fun C q=>Ox ((r,oC #[pV r,nS] 83)::[]) [0,1,2,3,4,5,6,7,8,9,10,11,12] (by kernel_rfl) rfl rfl (Cu 0 (zT 1 12) rfl ⟨Bxm,sB⟩ rfl (Yld.o (Ah (v:=pV r) rfl)) (Cu 1 (zT 2 11) rfl ⟨Bxm,sB⟩ rfl (Yld.o (Ck rfl)) (Cu 2 (zT 3 10) rfl ⟨Bxm,sB⟩ rfl (Yld.o (Ce Bun rfl (Ab Bus))) (Cu 3 (zT 4 9) rfl ⟨Bxm,sB⟩ rfl (Fl (v:=nS) ⟨_,Btu,rfl⟩ rfl mC rfl) (Cu 4 (zT 5 8) rfl ⟨Bxm,sB⟩ rfl (Yld.o (Bjl (el:=5) Btu rfl)) (Cu 5 (zT 6 7) rfl ⟨Bxm,sB⟩ rfl (Yld.o (Ah (v:=pV r) rfl)) (Cu 6 (zT 7 6) rfl ⟨Bxm,sB⟩ rfl (Yld.o (Ck rfl)) (Cu 7 (zT 8 5) rfl ⟨Bxm,sB⟩ rfl (Yld.o (Ce Bun rfl (Ab Bus))) (Cu 8 (zT 9 4) rfl ⟨Bxm,sB⟩ rfl (Fl (v:=nS) ⟨_,Btu,rfl⟩ rfl mC rfl) (Cu 9 (zT 10 3) rfl ⟨Bxm,sB⟩ rfl (Yld.o (Acn (el:=5) Btu rfl)) (Cu 10 (zT 11 2) rfl ⟨Bxm,sB⟩ rfl (Yld.o (Ou rfl rfl (z:=0-0) wrE)) (Dz 11 (zT 12 1) rfl ⟨Bxm,sB⟩ rfl (Yld.o (Ah (v:=iV n) rfl)) ⟨Bxm,sB⟩ (Dz 12 (zT 13 0) rfl ⟨Bxm,sB⟩ rfl (Yld.o (Da rfl rfl)) ⟨Bxm,sB⟩ (Us rfl (kk q ?_)))))))))))))))
 refine Bf (t:=decide ((0-0)<(n:Int))) rfl (fun a=>?_) (fun a=>?_)
 ·have u:=lZ1 a
  refine Ag rfl rfl (Av (pV r) (Av (iV n) (Arv (Cm (vs:=[pV r,iV n]) (Bkn (r:=r) (n:=n) (by omega)) Tryz.func115 rfl rfl ⟨rfl,rfl,trivial⟩ fun H J L i=>?_))))
  obtain⟨c,k,F,D,g,e⟩:=i
  replace c:=c.symm;replace e:=e.symm;subst c e k
  apply Ac
  refine f ⟨rfl,rfl,_,_,g,rfl⟩
 have u:=lZ0 a
 refine Al (f ⟨rfl,rfl,_,_,Hm,rfl⟩)
theorem Bep{ws:List ByteArray}{vw:Value}(rw_:Val ρ vw ws)(hb:(Dr (wl ws)).length≤1000000)(hne:ws.length≠0):CallsH (CX mn X) 32 #[vw,.string (bs ([32]:List UInt8))] ρ σ (rP ρ σ (.string (bs (Dr (wl ws))))):=by
 have hjn:=Att (ws:=wl ws) (by intro h;apply hne;rw[←Afs,h];rfl)
 rw[Afs]at hjn
 have hq:=Nat.div_le_self 9223372036854775807 (ws.length-1)
 have ce:2≤ws.length→2≤9223372036854775807/(ws.length-1):=fun h=>Bme (by omega) (by omega)
 refine Bq 75 [4] Tryz.func32 rfl fun Q N cd=>w_q rfl rfl fun K1 k1=>Au (.string (ByteArray.mk #[])) (Ary rfl rfl k1 fun K2 K3 k2 k3=>Av vw ?_)
 have g4:=Bxo rw_
 refine l_v (Ci (el:=9) Bts rfl rw_) (l_k k3 (Ao (w_q rfl rfl fun K5 k5=>l_v (Ek rfl rfl) (Au (.bool ((ws.length:Int)==0)) (l_k k5 (Cg rfl (by simpa using hne) (w_q rfl rfl fun K6 k6=>l_v (Ek rfl rfl) (Au (.bool ((ws.length:Int)==1)) (l_k k6 (Bf (t:=(ws.length:Int)==1) rfl (fun u=>?_) (fun u=>?_)))))))))))
 ·have q7:=Jr u
  refine w_q rfl rfl fun K8 k8=>Av vw ?_
  obtain⟨f,w⟩:=Ed (xs:=ws) (i:=0) (by first|omega|(simp only[lZ4]at *;omega))
  have cf:=Aem (Ve w);have ch:=Zm (ws:=wl ws) (i:=0+1)
  refine Arw (Ch 0 Bts ty9 rfl rw_ (q:=0) rfl rfl w) fun v9 T=>?_
  have c0:f.data.toList.length<2^60:=At.slen T
  refine l_v (Pk ty9 rfl T) (Au (.string f) (l_k k8 (Aq (N (rT (.string f) ?_)))))
  exact(congrArg Value.string (Acv _).symm).trans (by rw[Bge (by omega) w])
 have q7:=Jq u
 refine Al (kk k2 ?_)
 refine w_q rfl rfl fun b9 ad=>Au (iV 0) (Ary rfl rfl ad fun ba bb ae af=>Av (.string (bs ([32]:List UInt8))) (l_v (Dy Btr (p:=([32]:List UInt8)) rfl) (l_v (Gl rfl rfl) (l_k af (Co rfl rfl (Asb rfl rfl fun bc bd ag ah=>Av (.string (bs ([32]:List UInt8))) (l_v (Dy Btr (p:=([32]:List UInt8)) rfl) (Av vw ?_))))))))
 have c1:=Bxo rw_
 refine l_v (Ci (el:=9) Bts rfl rw_) (l_v (Ou rfl rfl (z:=(((ws.length-1):Nat):Int)) (Bo (by omega) (by omega) (by omega))) (l_v (Wr (p:=9223372036854775807) (q:=(((ws.length-1):Nat):Int)) rfl rfl (by omega) (z:=(((9223372036854775807/(ws.length-1)):Nat):Int)) wrR) (l_v (Uy (p:=1) (q:=(((9223372036854775807/(ws.length-1)):Nat):Int)) rfl rfl) (l_k ah (Cg rfl (Hn (by omega)) (Al (kk ag ?_)))))))
 refine Ag rfl rfl (Av (iV 0) (Av (.string (bs ([32]:List UInt8))) (l_v (Dy Btr (p:=([32]:List UInt8)) rfl) (Av vw ?_))))
 have c2:=Bxo rw_
 refine l_v (Ci (el:=9) Bts rfl rw_) (l_v (Ou rfl rfl (z:=(((ws.length-1):Nat):Int)) (Bo (by omega) (by omega) (by omega))) (l_v (Wq rfl rfl (z:=(((1*(ws.length-1)):Nat):Int)) wrE) (l_v (Cw (((0+(1*(ws.length-1))):Nat):Int)) (Au (iV (((0+(1*(ws.length-1))):Nat):Int)) (Ary rfl rfl ae fun be bf ai aj=>Av vw ?_)))))
 have c3:=Bxo rw_
 refine l_v (Ci (el:=9) Bts rfl rw_) (Av (iV 0) (l_k aj (Ao (Cc (fun mm ee dd ρ' σ'=>∃(i:Nat) (n:Nat),(ws.length-i)=mm∧[]=dd∧ρ=ρ'∧σ=σ'∧ee 0=vw∧ee 1=(.string (bs ([32]:List UInt8)))∧ee 39=vw∧ee 40=(iV (ws.length:Int))∧ee 5=iV n∧ee 41=iV i∧(i≤ws.length)∧(n=(ws.length-1)+((wl ws).take i).flatten.length)∧True) (m:=_) ⟨0,0+(1*(ws.length-1)),rfl,rfl,rfl,rfl,rfl,rfl,rfl,rfl,rfl,rfl,Gn _,(by rw[Ajh];show _=_+0;omega),trivial⟩ ?_))))
 rintro m22 e22 _ _ _ ⟨i,n,rfl,rfl,rfl,rfl,h22_0,h22_1,h22_39,h22_40,h22_5,h22_41,p22_0,p22_1,_⟩
 have ca:=Zm (ws:=wl ws) (i:=i)
 refine w_q rfl rfl fun bg ak=>l_v (Da h22_41 h22_40) (Asa ak fun bh al=>Bf (t:=decide ((i:Int)<(ws.length:Int))) rfl (fun k=>?_) (fun k=>?_))
 ·have b3:=lZ1 k
  refine Al (kk al ?_)
  refine Ai fun bi am=>Ao (w_q rfl rfl fun bj an=>?_)
  obtain⟨b,K⟩:=Ed (xs:=ws) (i:=i) (by first|omega|(simp only[lZ4]at *;omega))
  have a7:=Aem (Ve K);have ci:=Zm (ws:=wl ws) (i:=i+1)
  refine Arw (Ch i Bts ty9 h22_39 rw_ (q:=(i:Int)) h22_41 rfl K) fun ck O=>?_
  have c4:b.data.toList.length<2^60:=At.slen O
  refine l_v (Pk ty9 rfl O) (Au (.string b) (Ary rfl rfl an fun bk bl ao ap=>Av (.string b) (l_v (Dy Btr (p:=b.data.toList) rfl) (l_v (Ah (v:=iV n) h22_5) (l_v (Ou rfl rfl (z:=(((9223372036854775807-n):Nat):Int)) (Bo (by omega) (by omega) (by omega))) (l_v (Gl rfl rfl) (l_k ap (Cg rfl (Hn (by omega)) (Al (kk ao ?_))))))))))
  refine Ag rfl rfl (l_v (Ah (v:=iV n) h22_5) (Av (.string b) (l_v (Dy Btr (p:=b.data.toList) rfl) (l_v (Cw (((n+b.data.toList.length):Nat):Int)) (Au (iV ((n+b.data.toList.length):Nat)) (l_k am (Ag rfl rfl (l_v (Br h22_41 rfl (z:=(((i+1):Nat):Int)) wrE) (Av (iV ((i+1):Nat)) (Ac ?_))))))))))
  refine⟨_,?_,(i+1),(n+b.data.toList.length),rfl,rfl,rfl,rfl,h22_0,h22_1,h22_39,h22_40,rfl,rfl,(by omega),(by have:=a7;omega),trivial⟩
  omega
 have b3:=lZ0 k
 refine Bx (kk ai ?_)
 refine w_q rfl rfl fun bm aq=>Arv (Ct Bjs fun a=>?_)
 refine Arx rfl rfl aq fun bn ar=>l_v (Ah (v:=iV n) h22_5) (Arv (Cm (vs:=[pV a,iV n]) (Bkf (r:=a) (n:=n) (by omega)) Tryz.func85 rfl rfl ⟨rfl,rfl,trivial⟩ fun cp cu cz a1=>?_))
 obtain⟨y,a8,cl,c5,U,F⟩:=a1
 replace y:=y.symm;replace F:=F.symm;subst y F a8
 refine Arx rfl rfl ar fun bo au=>l_v (Ah (v:=vw) h22_0) ?_
 obtain⟨g,x⟩:=Ed (xs:=ws) (i:=0) (by first|omega|(simp only[lZ4]at *;omega))
 have cg:=Aem (Ve x);have cj:=Zm (ws:=wl ws) (i:=0+1)
 refine Arw (Ch 0 Bts ty9 rfl rw_ (q:=0) rfl rfl x) fun cm P=>?_
 have c6:g.data.toList.length<2^60:=At.slen P
 refine l_v (Pk ty9 rfl P) (Bj (Bxk Asc) (Bj (Bxk Asd) (Arv (Cm (vs:=[pV a,.string g]) (Qi (r:=a) (s:=g.data.toList) U (by simp only[lZ2,lZ3,lZ7];omega)) Bvu rfl rfl ⟨rfl,rfl,trivial⟩ fun cq cv d0 a2=>?_))))
 obtain⟨B,b5,Z,a9,V,G⟩:=a2
 replace B:=B.symm;replace G:=G.symm;subst B G a9
 refine Ary rfl rfl au fun bp bq av aw=>l_v (Ah (v:=vw) h22_0) (Arw (Ack 1 Bts ty9 rfl rw_ (q:=1) rfl rfl (by first|omega|(simp only[lZ4]at *;omega))) fun b6 d=>?_)
 have c7:=Bxo d
 refine l_v (Ci (el:=9) Bts rfl d) (Av (iV 0) (l_k aw (Ao (Aj (Bxk Asc) (Cc (fun mm ee dd ρ' σ'=>∃(j:Nat) (ov46_8c1:Value) (og46_8c1:Own),((ws.drop 1).length-j)=mm∧[]=dd∧Ro.le ρ ρ'∧(og46_8c1++((a,oC #[pV a,ov46_8c1] 83)::σ))=σ'∧ee 1=(.string (bs ([32]:List UInt8)))∧ee 8=pV a∧ee 63=b6∧ee 64=(iV ((((ws.drop 1)).length:Nat):Int))∧ee 65=iV j∧(j≤(ws.drop 1).length)∧Grow ρ' 5 ov46_8c1 (Dr (wl (ws.take (j+1)))) og46_8c1∧True) (m:=_) ⟨0,b5,Z,rfl,rfl,Bxm,rfl,h22_1,rfl,rfl,rfl,rfl,Gn _,Fy (by rw[Axh x];rfl) V,trivial⟩ ?_)))))
 rintro m46 e46 _ ρ46 _ ⟨j,ov46_8c1,og46_8c1,rfl,rfl,l46,rfl,h46_1,e,h46_63,h46_64,h46_65,p46_0,OG46_8c1,_⟩
 replace d:=Val.mono l46 d
 have cb:=Azj (ws:=ws) (j:=j+1)
 refine w_q rfl rfl fun br ax=>l_v (Da h46_65 h46_64) (Asa ax fun bt ay=>Bf (t:=decide ((j:Int)<((((ws.drop 1)).length:Nat):Int))) rfl (fun l=>?_) (fun l=>?_))
 ·have b4:=lZ1 l
  refine Al (kk ay ?_)
  refine Ai fun bu az=>Ao (w_q rfl rfl fun bv b0=>?_)
  obtain⟨c,L⟩:=Ed (xs:=ws.drop 1) (i:=j) (by first|omega|(simp only[lZ4]at *;omega))
  have M:=Bck L;have cc:=Azj (ws:=ws) (j:=j+1+1);have a6:=congrArg List.length M;simp only[lZ2,lZ3,lZ7]at a6
  refine Arw (Ch j Bts ty9 h46_63 d (q:=(j:Int)) h46_65 rfl L) fun cn R=>?_
  have c8:c.data.toList.length<2^60:=At.slen R
  refine l_v (Pk ty9 rfl R) (Au (.string c) (Arx rfl rfl b0 fun bx b1=>l_v (Ah (v:=.string (bs ([32]:List UInt8))) h46_1) (Bj (Bxk Asd) (Arv (Cm (vs:=[pV a,.string (bs ([32]:List UInt8))]) (Qi (r:=a) (s:=([32]:List UInt8)) OG46_8c1 (by simp only[lZ2,lZ3,lZ7];omega)) Bvu rfl rfl ⟨e,rfl,trivial⟩ fun cr cw d1 a3=>?_)))))
  obtain⟨C,co,c9,aa,W,H⟩:=a3
  replace C:=C.symm;replace H:=H.symm;subst C H aa
  refine l_k b1 (Ag rfl rfl (Av (.string c) (Bj (Bxk Asc) (Bj (Bxk Asd) (Arv (Cm (vs:=[pV a,.string c]) (Qi (r:=a) (s:=c.data.toList) W (by simp only[lZ2,lZ3,lZ7];omega)) Bvu rfl rfl ⟨e,rfl,trivial⟩ fun cs cx d2 a4=>?_))))))
  obtain⟨D,b8,a0,ab,Y,I⟩:=a4
  replace D:=D.symm;replace I:=I.symm;subst D I ab
  refine l_k az (Ag rfl rfl (l_v (Br h46_65 rfl (z:=(((j+1):Nat):Int)) wrE) (Av (iV ((j+1):Nat)) (Bj (Bxk Asc) (Ac ?_)))))
  refine⟨_,?_,(j+1),b8,a0,rfl,rfl,l46,rfl,h46_1,e,h46_63,h46_64,rfl,(by omega),(Fy M Y),trivial⟩
  omega
 have b4:=lZ0 l
 refine Bx (kk av ?_)
 refine w_q rfl rfl fun bz b2=>Bj (Bxk Asd) (Arv (Cm (vs:=[pV a]) (Anc (r:=a) OG46_8c1 (by have:=congrArg List.length (show Dr (wl (ws.take (j+1)))=Dr (wl ws) by rw[show j+1=ws.length by rw[lZ4]at *;omega,Sr]);intro h;rw[h]at this;simp only[lZ7]at this;omega)) Tryz.func36 rfl rfl ⟨e,trivial⟩ fun ct cy d3 a5=>?_))
 obtain⟨E,J,ac⟩:=a5
 replace E:=E.symm;replace J:=J.symm;subst E J ac
 refine Au (.string (bs (Dr (wl (ws.take (j+1)))))) (l_k b2 (Aj (Bxj l46) (Aq (N ⟨rfl,rfl,eT (.string (bs (Dr (wl (ws.take (j+1)))))) ?_⟩))))
 rw[show j+1=ws.length by rw[lZ4]at *;omega,Sr]
end
section
open Go
theorem Dm{p:Int}(h0:0≤p)(h1:p<4294967296):IntKind.u32.wrap p=p:=by
 show p%_=_
 simp only[IntKind.bits]
 omega
def smL:List UInt8:=(List.append (List.append [48,48,48,49,48,50,48,51,48,52,48,53,48,54,48,55,48,56,48,57,49,48,49,49,49,50,49,51,49,52,49,53,49,54,49,55,49,56,49,57,50,48,50,49,50,50,50,51,50,52] [50,53,50,54,50,55,50,56,50,57,51,48,51,49,51,50,51,51,51,52,51,53,51,54,51,55,51,56,51,57,52,48,52,49,52,50,52,51,52,52,52,53,52,54,52,55,52,56,52,57]) (List.append [53,48,53,49,53,50,53,51,53,52,53,53,53,54,53,55,53,56,53,57,54,48,54,49,54,50,54,51,54,52,54,53,54,54,54,55,54,56,54,57,55,48,55,49,55,50,55,51,55,52] [55,53,55,54,55,55,55,56,55,57,56,48,56,49,56,50,56,51,56,52,56,53,56,54,56,55,56,56,56,57,57,48,57,49,57,50,57,51,57,52,57,53,57,54,57,55,57,56,57,57]))
def smB:ByteArray:=⟨smL.toArray⟩
theorem Akx{d:Nat}(h:d<100):smB[d*2]?=some (UInt8.ofNat (48+d/10)):=by
 have key:(List.range 100).all (fun d=>smB[d*2]?==some (UInt8.ofNat (48+d/10)))=true:=by decide +kernel
 simpa using Rh.1 key d (Amr.2 h)
theorem Akz{d:Nat}(h:d<100):smB[d*2+1]?=some (UInt8.ofNat (48+d%10)):=by
 have key:(List.range 100).all (fun d=>smB[d*2+1]?==some (UInt8.ofNat (48+d%10)))=true:=by decide +kernel
 simpa using Rh.1 key d (Amr.2 h)
theorem Bmn{n:Nat}(h0:10≤n)(h:n<100):(smL.take (n*2+2)).drop (n*2)=Lr n:=by
 have key:(List.range 100).all (fun n=>decide (n<10)||((smL.take (n*2+2)).drop (n*2)==Lr n))=true:=by decide +kernel
 have:=Rh.1 key n (Amr.2 h)
 rw[Hn (by omega),Hz]at this
 exact eq_of_beq this
theorem Bmm{n:Nat}(h:n<10):((([48,49,50,51,52,53,54,55,56,57,97,98,99,100,101,102,103,104,105,106,107,108,109,110,111,112,113,114,115,116,117,118,119,120,121,122]:List UInt8).take (n+1)).drop n)=Lr n:=by
 have key:(List.range 10).all (fun n=>((([48,49,50,51,52,53,54,55,56,57,97,98,99,100,101,102,103,104,105,106,107,108,109,110,111,112,113,114,115,116,117,118,119,120,121,122]:List UInt8).take (n+1)).drop n)==Lr n)=true:=by decide +kernel
 exact eq_of_beq (Rh.1 key n (Amr.2 h))
def Aui(n:Nat):Nat:=if n<256 then Ie n else if n<65536 then 8+Ie (n>>>8) else 16+Ie (n>>>16)
theorem Akf{x:Nat}(h0:1≤x)(h:x<256):∃k,k<8∧Ie x=k+1∧2^k≤x∧x<2^(k+1):=by
 have key:(List.range 256).all (fun x=>decide (x=0)||(List.range 8).any fun k=>decide (Ie x=k+1)&&decide (2^k≤x)&&decide (x<2^(k+1)))=true:=by decide +kernel
 have:=Rh.1 key x (Amr.2 h)
 rw[Hn (by omega),Hz,Axj]at this
 obtain⟨k,hk,a⟩:=this
 simp only[Rb,decide_eq_true_eq]at a
 exact⟨k,Amr.1 hk,a.1.1,a.1.2,a.2⟩
theorem Auj{n:Nat}(h0:1≤n)(h:n<16777216):∃k,k<24∧Aui n=k+1∧2^k≤n∧n<2^(k+1):=by
 unfold Aui
 split
 ·obtain⟨k,d,a,b,c⟩:=Akf h0 (by omega)
  exact⟨k,by omega,a,b,c⟩
 ·split
  ·rw[Bgg]
   obtain⟨k,d,a,b,c⟩:=Akf (x:=n/2^8) (by omega) (by omega)
   refine⟨8+k,by omega,by omega,?_,?_⟩
   ·rw[Nat.pow_add];omega
   ·rw[show 8+k+1=8+(k+1) by omega,Nat.pow_add];omega
  ·rw[Bgg]
   obtain⟨k,d,a,b,c⟩:=Akf (x:=n/2^16) (by omega) (by omega)
   refine⟨16+k,by omega,by omega,?_,?_⟩
   ·rw[Nat.pow_add];omega
   ·rw[show 16+k+1=16+(k+1) by omega,Nat.pow_add];omega
def tD(n:Nat):Nat:=(Aui n*78913)>>>18
def Qu(n:Nat):Nat:=if n<1000 then 3 else if n<10000 then 4 else if n<100000 then 5 else if n<1000000 then 6 else 7
def Awe(b:Bool):Nat:=if b then 1 else 0
theorem Azb{b:Bool}:Awe b≤1:=by cases b<;>decide
theorem Bhj{n:Nat}(h0:100≤n)(h:n≤1000000):tD n≤6∧tD n+Awe (decide ((n:Int)≥((10^tD n:Nat):Int)))=Qu n:=by
 obtain⟨k,c,b,e,f⟩:=Auj (n:=n) (by omega) (by omega)
 have fin:∀t,tD n=t→t≤6→(n<10^t→t=Qu n)→(10^t≤n→t+1=Qu n)→tD n≤6∧tD n+Awe (decide ((n:Int)≥((10^tD n:Nat):Int)))=Qu n:=fun t ht a ha hb=>by
  rw[ht]
  refine⟨a,?_⟩
  by_cases hc:10^t≤n
  ·rw[Hx (by omega),←hb hc];rfl
  ·rw[Hn (by omega),←ha (by omega)];rfl
 have ht:tD n=((k+1)*78913)>>>18:=by unfold tD;rw[b]
 have a:6≤k:=by
  rcases Rd k 6 with hk|hk
  ·have:2^(k+1)≤2^6:=Azq (by omega) (by omega)
   omega
  ·exact hk
 have d:k<20:=by
  rcases Rd k 20 with hk|hk
  ·exact hk
  ·have:2^20≤2^k:=Azq (by omega) (by omega)
   omega
 rcases (show k=6∨k=7∨k=8∨k=9∨k=10∨k=11∨k=12∨k=13∨k=14∨k=15∨k=16∨k=17∨k=18∨k=19 from by omega) with rfl|rfl|rfl|rfl|rfl|rfl|rfl|rfl|rfl|rfl|rfl|rfl|rfl|rfl
 ·exact fin 2 ht (by omega) (fun h=>by omega) (fun h=>by unfold Qu;rw[if_pos (by omega)])
 ·exact fin 2 ht (by omega) (fun h=>by omega) (fun h=>by unfold Qu;rw[if_pos (by omega)])
 ·exact fin 2 ht (by omega) (fun h=>by omega) (fun h=>by unfold Qu;rw[if_pos (by omega)])
 ·exact fin 3 ht (by omega) (fun h=>by unfold Qu;rw[if_pos (by omega)]) (fun h=>by unfold Qu;rw[if_neg (by omega),if_pos (by omega)])
 ·exact fin 3 ht (by omega) (fun h=>by omega) (fun h=>by unfold Qu;rw[if_neg (by omega),if_pos (by omega)])
 ·exact fin 3 ht (by omega) (fun h=>by omega) (fun h=>by unfold Qu;rw[if_neg (by omega),if_pos (by omega)])
 ·exact fin 3 ht (by omega) (fun h=>by omega) (fun h=>by unfold Qu;rw[if_neg (by omega),if_pos (by omega)])
 ·exact fin 4 ht (by omega) (fun h=>by unfold Qu;rw[if_neg (by omega),if_pos (by omega)]) (fun h=>by unfold Qu;rw[if_neg (by omega),if_neg (by omega),if_pos (by omega)])
 ·exact fin 4 ht (by omega) (fun h=>by omega) (fun h=>by unfold Qu;rw[if_neg (by omega),if_neg (by omega),if_pos (by omega)])
 ·exact fin 4 ht (by omega) (fun h=>by omega) (fun h=>by unfold Qu;rw[if_neg (by omega),if_neg (by omega),if_pos (by omega)])
 ·exact fin 5 ht (by omega) (fun h=>by unfold Qu;rw[if_neg (by omega),if_neg (by omega),if_pos (by omega)]) (fun h=>by unfold Qu;rw[if_neg (by omega),if_neg (by omega),if_neg (by omega),if_pos (by omega)])
 ·exact fin 5 ht (by omega) (fun h=>by omega) (fun h=>by unfold Qu;rw[if_neg (by omega),if_neg (by omega),if_neg (by omega),if_pos (by omega)])
 ·exact fin 5 ht (by omega) (fun h=>by omega) (fun h=>by unfold Qu;rw[if_neg (by omega),if_neg (by omega),if_neg (by omega),if_pos (by omega)])
 ·exact fin 6 ht (by omega) (fun h=>by unfold Qu;rw[if_neg (by omega),if_neg (by omega),if_neg (by omega),if_pos (by omega)]) (fun h=>by unfold Qu;rw[if_neg (by omega),if_neg (by omega),if_neg (by omega),if_neg (by omega)])
def dg(d:Nat):UInt8:=UInt8.ofNat (48+d)
theorem Bpg{d:Nat}(h:d<10):(dg d).toNat=48+d:=by
 unfold dg;rw[UInt8.toNat_ofNat'];omega
theorem Bph{n:Nat}(h0:10≤n)(h:n<100):Lr n=[dg (n/10),dg (n%10)]:=by
 rw[Aba h0 (by omega),Bey (by omega)];rfl
theorem Bez{n:Nat}(h0:100≤n)(h:n<1000):Lr n=[dg (n/100),dg (n/10%10),dg (n%10)]:=by
 rw[Aba (by omega) (by omega),Bph (by omega) (by omega),Abj];rfl
theorem Bfa{n:Nat}(h0:1000≤n)(h:n<10000):Lr n=[dg (n/1000),dg (n/100%10),dg (n/10%10),dg (n%10)]:=by
 rw[Aba (by omega) (by omega),Bez (by omega) (by omega),Abj,Abj];rfl
theorem Bfb{n:Nat}(h0:10000≤n)(h:n<100000):Lr n=[dg (n/10000),dg (n/1000%10),dg (n/100%10),dg (n/10%10),dg (n%10)]:=by
 rw[Aba (by omega) (by omega),Bfa (by omega) (by omega),Abj,Abj,Abj];rfl
theorem Bfc{n:Nat}(h0:100000≤n)(h:n<1000000):Lr n=[dg (n/100000),dg (n/10000%10),dg (n/1000%10),dg (n/100%10),dg (n/10%10),dg (n%10)]:=by
 rw[Aba (by omega) (by omega),Bfb (by omega) (by omega),Abj,Abj,Abj,Abj];rfl
theorem Bpi{n:Nat}(h0:1000000≤n)(h:n<10000000):Lr n=[dg (n/1000000),dg (n/100000%10),dg (n/10000%10),dg (n/1000%10),dg (n/100%10),dg (n/10%10),dg (n%10)]:=by
 rw[Aba (by omega) (by omega),Bfc (by omega) (by omega),Abj,Abj,Abj,Abj,Abj];rfl
end
section
open Go
section
variable{P:Program}{ρ ρ₀:Ro}{e:Env}{ty t t':TypeId}{x y:Operand}{v:Value}
theorem Jg{r n l h:Nat}{el:TypeId}{lo hi:Option Operand}(hT:P.underlying t=some (.array n el))(hE:∃i,P.info? el=some i∧i.size=1)(hx:Af e x = .pointer (some ⟨r,0,none⟩))(hl:(lo=none∧l=0)∨∃o,lo=some o∧Af e o = .int .i64 (l:Int))(hh:(hi=none∧h=n)∨∃o,hi=some o∧Af e o = .int .i64 (h:Int))(h1:l≤h)(h2:h≤n)(h3:l<n) :
  Yld P ρ e (.slice t x lo hi none) ty (.slice (some ⟨r,l,none⟩) (h-l) (n-l)) :=
 Mt (s:=Instr.sliceAt t (Af e x) (lo.map (Af e)) (hi.map (Af e)) none) (fun _ _ _ _=>rfl) fun ρ' σ _=>by
  rw[hx]
  show wpS P ρ' ((underlying t).bind _) σ _
  rw[Ad]
  refine Az hT ?_
  simp only[]
  show wpS P ρ' ((Instr.sliceBounds false n n (lo.map (Af e)) (hi.map (Af e)) none).bind _) σ _
  rw[sliceB (l:=l) (h:=h) (by
   rcases hl with⟨rfl,b⟩|⟨o,rfl,ho⟩
   ·exact .inl ⟨rfl,b⟩
   ·exact .inr (by rw[Auf,ho])) (by
   rcases hh with⟨rfl,b⟩|⟨o,rfl,ho⟩
   ·exact .inl ⟨rfl,b⟩
   ·exact .inr (by rw[Auf,ho])) h1 h2]
  show wpS P ρ' ((sizeOf el).bind _) σ _
  rw[Ad]
  refine Dx hE ⟨?_,rfl⟩
  refine congrArg (fun z=>Value.slice (some z) (h-l) (n-l)) ?_
  show (if n=l then (⟨r,0,none⟩:Addr) else (⟨r,0,none⟩:Addr).add (l*1))=_
  rw[if_neg (show ¬n=l by omega),Ld]
  simp
/-- The string of a part of bytes that are owned. -/
theorem Aei{A:Own}{r off cap:Nat}{l:List UInt8}{c:List Value}{fz:Nat×Nat}{el tt:TypeId}(hT:P.underlying t=some (.slice el))(hT':P.underlying t'=some .string)(hE:P.underlying el=some (.int .u8))(hx:Af e x = .slice (some ⟨r,off,none⟩) l.length cap)
  (hm:(r,Res.obj (.cells c.toArray tt fz))∈A) (hc:(c.drop off).take l.length=l.map fun b:UInt8=>Value.int .u8 (b.toNat:Int)):Aai P ρ₀ A e (.convert t t' x) ty (.string (bs l)):=fun ρ' σ d pos af g hS=>by
 show wpS P ρ' ((convert t t' (Af e x)).bind _) σ _
 rw[Ad,hx]
 show wpS P ρ' ((underlying t).bind _) σ _
 rw[Ad]
 refine Az hT ?_
 show wpS P ρ' ((underlying t').bind _) σ _
 rw[Ad]
 refine Az hT' ?_
 show wpS P ρ' ((underlying el).bind _) σ _
 rw[Ad]
 refine Az hE ?_
 show wpS P ρ' (Conv.bytesToString (.slice (some ⟨r,off,none⟩) l.length cap)) σ _
 unfold Conv.bytesToString
 simp only
 show wpS P ρ' ((loadCells ⟨r,off,none⟩ l.length).bind _) σ _
 rw[Ad]
 have hl:l.length=(l.map fun b:UInt8=>Value.int .u8 (b.toNat:Int)).length:=by simp
 rw[hl]
 refine Ff rfl (.inr (hS.2 _ hm)) _ 0 #[] (fun j w hj=>?_) ?_
 ·have hj':=hj
  rw[←hc,Aez]at hj'
  split at hj'
  ·rw[Xy]at hj'
   simpa[Gy]using hj'
  ·cases hj'
 ·have a:(#[]:Array Value)++(l.map fun b:UInt8=>Value.int .u8 (b.toNat:Int)).toArray=(l.map fun b:UInt8=>Value.int .u8 (b.toNat:Int)).toArray:=by simp
  rw[a,Bgq]
  show wpS P ρ' (Sem.bind _ _) _ _
  rw[Ad]
  refine bytesTo l ByteArray.empty ?_
  have e:ByteArray.empty++bs l=bs l:=by apply ByteArray.ext;rw[ByteArray.data_append];show #[]++_=_;simp
  exact⟨by rw[e],rfl⟩
end
theorem Alx:Fw Tryz.prog 247 (.agg #[.int .u8 0,.int .u8 0,.int .u8 0,.int .u8 0,.int .u8 0,.int .u8 0,.int .u8 0,.int .u8 0,.int .u8 0,.int .u8 0,.int .u8 0,.int .u8 0,.int .u8 0,.int .u8 0,.int .u8 0,.int .u8 0,.int .u8 0,.int .u8 0,.int .u8 0,.int .u8 0,.int .u8 0,.int .u8 0,.int .u8 0,.int .u8 0]):=⟨_,Ab Tryz.typeInfo247,rfl⟩
end
section
open Go
def powC:List Value:=(List.range 20).map fun n:Nat=>Value.int .u64 ((10^n:Nat):Int)
theorem Bmc{t:Nat}(h:t<20):powC.toArray[t]?=some (.int .u64 ((10^t:Nat):Int)):=by
 unfold powC;simp[h]
structure GlobE(ρ:Ro):Prop where
 g:Glob ρ
 views:∃t fz,ρ 0=some (.cells #[.string (bs Qx),.string (bs Mq),.string (bs wNo)] t fz)
 pow:∃t fz,ρ 5=some (.cells powC.toArray t fz)
 mlen:∃(z:Int) (t:TypeId) (fz:Nat×Nat),ρ 4=some (.cells #[.int .i64 z] t fz)∧I64 z
 etype:∃t fz,ρ 1=some (.cells #[.iface 218 (.agg #[typeHandle Tryz.prog 85])] t fz)
theorem GlobE.mono{ρ ρ':Ro}(h:Ro.le ρ ρ')(hg:GlobE ρ):GlobE ρ' :=
 ⟨hg.g.mono h,let ⟨t,fz,h1⟩:=hg.views;⟨t,fz,h _ _ h1⟩,let ⟨t,fz,h1⟩:=hg.pow;⟨t,fz,h _ _ h1⟩,let ⟨z,t,fz,h1,h2⟩:=hg.mlen;⟨z,t,fz,h _ _ h1,h2⟩,let ⟨t,fz,h1⟩:=hg.etype;⟨t,fz,h _ _ h1⟩⟩
theorem Oz{d d':Nat}(h:d=d'):Value.int .u8 ((UInt8.ofNat (48+d)).toNat:Int) = .int .u8 ((dg d').toNat:Int):=by rw[h];rfl
theorem Beu{d d':Nat}(h:d=d')(hd:d<10):Value.int .u8 ((48+d:Nat):Int) = .int .u8 ((dg d').toNat:Int):=by rw[←h,Bpg hd]
end
section
open Go
def bw(ws:List (List UInt8)):List ByteArray:=ws.map bs
theorem Avp(ws:List (List UInt8)):wl (bw ws)=ws:=by
 unfold wl bw
 rw[List.map_map]
 exact List.map_id'' (fun _=>rfl) ws
theorem Bel{ws:List (List UInt8)}{w:List UInt8}:bw ws++[bs w]=bw (ws++[w]):=by simp[bw]
theorem Aup{α β:Type}{f:α→β}{l:List α}{j:Nat}{x:α}(h:l[j]?=some x):(l.take j).map f++[f x]=(l.take (j+1)).map f:=by rw[Nj h];simp
theorem Atn{m:Market}{h:Int}{a:ByteArray}(ha:m.houses[h.toNat]?=some a):a=bs (Lu m h):=by
 unfold Lu;rw[ha];rfl
def Awu(a:ByteArray)(x:FField):List ByteArray:=[bs Ib,bs x.name.data.toList,bs a.data.toList,bs (Lg x.grows)]++Abx x.marks
theorem Bca{m:Market}{x:FField}{a:ByteArray}(ha:m.houses[x.house.toNat]?=some a):wl (Awu a x)=Et m x:=by
 have e:Awu a x=bw (Et m x):=by
  unfold Awu Et bw Abx
  have b:bs a.data.toList=bs (Lu m x.house):=Atn ha
  rw[b]
  simp
 rw[e,Avp]
def Ayi(l:Lab):List UInt8:=Fj [Ub,Hv l.most]++Ds (Na Pp l.kinds)
def Yd(l:Lab)(i:Nat):List UInt8:=Ayi l++Ds ((l.tests.map Er).take i)
def Amt(l:Lab)(m:Market):List UInt8:=(Yd l l.tests.length++Fj [Ea]++Ds (Na Ic m.houses))++Ds (Na Lp m.marks)
def Acd(l:Lab)(m:Market)(i:Nat):List UInt8:=Amt l m++Ds ((m.fields.map (Et m)).take i)
def Aee(l:Lab)(m:Market)(i:Nat):List UInt8:=Acd l m m.fields.length++Ds ((m.sales.map (Je m)).take i)
theorem Ayj{l:Lab}:Yd l 0=Ayi l:=by unfold Yd;simp[Ds]
theorem Biy{l:Lab}{m:Market}:Acd l m 0=Amt l m:=by unfold Acd;simp[Ds]
theorem txt5_0{l:Lab}{m:Market}:Aee l m 0=Acd l m m.fields.length:=by unfold Aee;simp[Ds]
theorem Apj{l:Lab}{i:Nat}{x:FTest}(h:l.tests[i]?=some x):Yd l i++Fj (Er x)=Yd l (i+1):=by
 unfold Yd
 rw[Tk (x:=Er x) (by rw[Tp,h];rfl),lZ9]
theorem Bdq{l:Lab}{m:Market}{i:Nat}{x:FField}(h:m.fields[i]?=some x):Acd l m i++Fj (Et m x)=Acd l m (i+1):=by
 unfold Acd
 rw[Tk (x:=Et m x) (by rw[Tp,h];rfl),lZ9]
theorem Bdr{l:Lab}{m:Market}{i:Nat}{x:Sale}(h:m.sales[i]?=some x):Aee l m i++Fj (Je m x)=Aee l m (i+1):=by
 unfold Aee
 rw[Tk (x:=Je m x) (by rw[Tp,h];rfl),lZ9]
theorem Avk{l:Lab}{m:Market}:Aee l m m.sales.length=Bv l m:=by
 have a:(l.tests.map Er).take l.tests.length=l.tests.map Er:=Ym (by simp)
 have b:(m.fields.map (Et m)).take m.fields.length=m.fields.map (Et m):=Ym (by simp)
 have c:(m.sales.map (Je m)).take m.sales.length=m.sales.map (Je m):=Ym (by simp)
 unfold Aee Acd Amt Yd Ayi Bv Md
 rw[a,b,c,Of,Rt,Rt,Of,Rt,Rt,Rt]
 show _=Fj [Ub,Hv l.most]++(Ds (Na Pp l.kinds)++(Ds (l.tests.map Er)++(Fj [Ea]++(Ds (Na Ic m.houses)++(Ds (Na Lp m.marks)++(Ds (m.fields.map (Et m))++Ds (m.sales.map (Je m))))))))
 simp only[lZ9]
section
variable{l:Lab}{m:Market}
theorem Baq(lok:LabOk l)(mok:MarketOk m){i:Nat}:(Aee l m i).length≤60000:=by
 refine Sz ?_ (Tz lok mok)
 rw[←Avk]
 unfold Aee
 rw[lZ2,lZ2,Ym (l:=m.sales.map (Je m)) (i:=m.sales.length) (by simp)]
 have:=Tl (ls:=m.sales.map (Je m)) (i:=i)
 omega
theorem Bap(lok:LabOk l)(mok:MarketOk m){i:Nat}:(Acd l m i).length≤60000:=by
 refine Sz ?_ (Baq lok mok (i:=0))
 rw[txt5_0]
 unfold Acd
 rw[lZ2,lZ2,Ym (l:=m.fields.map (Et m)) (i:=m.fields.length) (by simp)]
 have:=Tl (ls:=m.fields.map (Et m)) (i:=i)
 omega
theorem Ahp(lok:LabOk l)(mok:MarketOk m):(Amt l m).length≤60000:=by
 have:=Bap lok mok (i:=0)
 rw[Biy]at this;exact this
theorem Arl(lok:LabOk l)(mok:MarketOk m){i:Nat}:(Yd l i).length≤60000:=by
 have h:=Ahp lok mok
 unfold Amt at h
 rw[lZ2,lZ2,lZ2]at h
 have a:(Yd l i).length≤(Yd l l.tests.length).length:=by
  unfold Yd
  rw[lZ2,lZ2,Ym (l:=l.tests.map Er) (i:=l.tests.length) (by simp)]
  have:=Tl (ls:=l.tests.map Er) (i:=i)
  omega
 omega
theorem Bhs(lok:LabOk l)(mok:MarketOk m):(Ds (Na Pp l.kinds)).length≤60000∧(Ds (Na Ic m.houses)).length≤60000∧(Ds (Na Lp m.marks)).length≤60000∧(Yd l l.tests.length).length≤60000:=by
 have h:=Ahp lok mok
 have a:=Arl lok mok (i:=0)
 rw[Ayj]at a
 unfold Ayi at a
 unfold Amt at h
 rw[lZ2,lZ2,lZ2]at h
 rw[lZ2]at a
 omega
theorem Ara{ws:List (List UInt8)}(h:shL ws):(Dr ws).length≤372∧(Fj ws).length≤373:=by
 have a:=Aeq (k:=30) h.2
 have b:=h.1
 unfold Fj
 rw[lZ2]
 simp only[lZ3,lZ7]
 omega
theorem Bms(lok:LabOk l)(mok:MarketOk m){x:FTest}(hx:x∈l.tests):(Dr (Er x)).length≤372∧(Fj (Er x)).length≤373 :=
 Ara (Ado lok mok _ (by unfold Md;simp;right;right;left;exact⟨x,hx,rfl⟩))
theorem Bfq(lok:LabOk l)(mok:MarketOk m){x:FField}(hx:x∈m.fields):(Dr (Et m x)).length≤372∧(Fj (Et m x)).length≤373 :=
 Ara (Ado lok mok _ (by unfold Md;simp;right;right;right;right;right;right;left;exact⟨x,hx,rfl⟩))
theorem Bmk(lok:LabOk l)(mok:MarketOk m){x:Sale}(hx:x∈m.sales):(Dr (Je m x)).length≤372∧(Fj (Je m x)).length≤373 :=
 Ara (Ado lok mok _ (by unfold Md;simp;right;right;right;right;right;right;right;exact⟨x,hx,rfl⟩))
theorem Yx(hf:Gh l=0)(hg:Cf m=0):Ia l m=bs (Bv l m):=by unfold Ia;rw[if_pos (Akt hf hg)]
theorem Ads(hf:Gh l≠0):Ng l m=Gh l∧Ia l m=bs []:=by
 have e:Ng l m=Gh l:=by unfold Ng;rw[Ry hf]
 exact⟨e,by unfold Ia;rw[e,if_neg hf]⟩
theorem Adt(hf:Gh l=0)(hg:Cf m≠0):Ng l m=Cf m∧Ia l m=bs []:=by
 have e:Ng l m=Cf m:=by unfold Ng;rw[Gr hf,Ry hg]
 exact⟨e,by unfold Ia;rw[e,if_neg hg]⟩
end
end
section
open Go
theorem Bev{c n:UInt8}(h:((c.toNat:Nat):Int)=((n.toNat:Nat):Int)):c=n:=UInt8.toNat_inj.1 (by omega)
theorem Asy{c n:UInt8}(h:¬((c.toNat:Nat):Int)=((n.toNat:Nat):Int)):c≠n:=fun e=>h (by rw[e])
theorem Ahg{α:Type}{l:List α}{i:Nat}{x:α}(h:l[i]?=some x):l.drop i=x::l.drop (i+1):=by
 have hi:i<l.length:=(lZ8.1 h).1
 rw[Azk hi]
 rw[Sc hi]at h
 rw[Option.some.inj h]
def Nz(s:List UInt8):Bool:=(Es s).any List.isEmpty
theorem Wi:∀{s acc:List UInt8},Ma 32 acc s≠[]
 | [],_=>by simp[Ma]
 | x::s,acc=>by
  show (if x=32 then _ else _)≠[]
  split
  ·simp
  ·exact Wi
theorem Atb{d:List UInt8}{i:Nat}{c:UInt8}(h:d[i]?=some c):Aij (d.take (i+1))=10*Aij (d.take i)+(c.toNat-48):=by rw[Nj h,Ata]
theorem Aqk:∀{n:Nat} {d:List UInt8},d.all Iq=true→d.length≤n→Aij d<10^n
 | n,d=>by
  intro ha hl
  have key:∀(l:List UInt8) (a k:Nat),l.all Iq=true→a<10^k→l.foldl (fun n c=>10*n+(c.toNat-48)) a<10^(k+l.length):=by
   intro l
   induction l with
   | nil=>intro a k _ h;simpa using h
   | cons c l ih =>
    intro a k ha h
    simp only[Bab,Rb]at ha
    have hc:c.toNat-48≤9:=by have:=ha.1;unfold Iq at this;simp at this;omega
    have:=ih (10*a+(c.toNat-48)) (k+1) ha.2 (by rw[Nat.pow_succ];omega)
    rw[List.foldl_cons,lZ3,show k+(l.length+1)=k+1+l.length by omega]
    exact this
  have b:=key d 0 0 ha (by decide)
  rw[Xz]at b
  exact Abk b (Azq (by decide) hl)
theorem Bdn{s:List UInt8}(h:Rm s=true):(s.take s.length).drop 1=Oe s:=by unfold Oe;rw[h,if_pos rfl,Sr]
def Dp(s:List UInt8):Int:=if Ee s then Rq s else 0
theorem Axo{s:List UInt8}(h:Ee s=false):Dp s=0:=by unfold Dp;rw[h];rfl
theorem Axp{s:List UInt8}(h:Ee s=true):Dp s=Rq s:=by unfold Dp;rw[h,if_pos rfl]
def Aaj(s:List UInt8)(i:Nat):Prop:=Pw [] s=Pw (s.take i) (s.drop i)
theorem Btd{s:List UInt8}:Aaj s 0:=rfl
theorem Bsc{s:List UInt8}{i:Nat}{c:UInt8}(h:Aaj s i)(hc:s[i]?=some c)(hn:c≠46∨s[i+1]?≠some 46):Aaj s (i+1):=by
 unfold Aaj at *
 rw[h,Ahg hc,Nj hc]
 show (if c=46∧(s.drop (i+1)).head?=some 46 then _ else _)=_
 rw[if_neg]
 rintro⟨b,a⟩
 rw[List.head?_drop]at a
 rcases hn with h|h
 ·exact h b
 ·exact h a
theorem Bpk{s:List UInt8}{i:Nat}{c e:UInt8}(h:Aaj s i)(hc:s[i]?=some c)(h1:c=46)(he:s[i+1]?=some e)(h2:e=46):Pw [] s=some (s.take i,s.drop (i+2)):=by
 unfold Aaj at h
 rw[h,Ahg hc]
 show (if c=46∧(s.drop (i+1)).head?=some 46 then _ else _)=_
 rw[if_pos ⟨h1,by rw[List.head?_drop,he,h2]⟩,Aug]
theorem Bpj{s:List UInt8}{i:Nat}(h:Aaj s i)(hi:s.length≤i+1):Pw [] s=none:=by
 unfold Aaj at h
 rw[h]
 rcases Rd i s.length with hl|hl
 ·rw[Ahg (Sc hl),Azn (by omega)]
  show (if s[i]=46∧([]:List UInt8).head?=some 46 then _ else _)=_
  rw[if_neg (by simp)];rfl
 ·rw[Azn hl];rfl
theorem Rf{α β:Type}{f:α→Option β}:∀{l:List α} {i:Nat} {x:α},l[i]?=some x→f x=none→Gm f l=none
 | [],_,_,h,_=>by cases h
 | a::l,0,x,h,hx=>by
  simp at h;subst h
  show (match f a,Gm f l with|some a,some r=>_|_,_=>none)=none
  rw[hx]
 | a::l,i+1,x,h,hx=>by
  show (match f a,Gm f l with|some a,some r=>_|_,_=>none)=none
  rw[Rf (l:=l) (i:=i) (by simpa using h) hx]
  cases f a<;>rfl
theorem Asi{α β:Type}{f:α→Option β}:∀{l:List α} {r:List β} {x:α} {y:β},Gm f l=some r→f x=some y→Gm f (l++[x])=some (r++[y])
 | [],r,x,y,h,hx=>by
  have:r=[]:=(Option.some.inj h).symm
  subst this
  show (match f x,Gm f [] with|some a,some r=>some (a::r)|_,_=>none)=_
  rw[hx];rfl
 | a::l,r,x,y,h,hx=>by
  have h':(match f a,Gm f l with|some a,some r=>some (a::r)|_,_=>none)=some r:=h
  cases ha:f a with
  | none=>rw[ha]at h';cases h'
  | some b =>
   cases hl:Gm f l with
   | none=>rw[ha,hl]at h';cases h'
   | some r' =>
    rw[ha,hl]at h'
    obtain rfl:=Option.some.inj h'
    show (match f a,Gm f (l++[x]) with|some a,some r=>some (a::r)|_,_=>none)=_
    rw[ha,Asi hl hx];rfl
theorem Zi{α β:Type}{f:α→Option β}{l:List α}{i:Nat}{r:List β}{x:α}{y:β}(h:Gm f (l.take i)=some r)(hx:l[i]?=some x)(hy:f x=some y):Gm f (l.take (i+1))=some (r++[y]):=by
 rw[Nj hx];exact Asi h hy
theorem Ahk{s:List UInt8}:-1000000000<Dp s∧Dp s<1000000000:=by
 unfold Dp
 split
 ·rename_i h
  have hh:=h
  unfold Ee at h
  simp only[Rb,decide_eq_true_eq]at h
  have:=Aqk (n:=9) h.1.2 h.1.1.2
  unfold Rq
  split<;>omega
 ·omega
theorem Afi{s:List UInt8}(h:Ee s=true):Yv s=some (Dp s):=by unfold Yv;rw[h,if_pos rfl,Axp h]
theorem Ard{s:List UInt8}(h:Ee s=false):Yv s=none:=by unfold Yv;rw[h];rfl
theorem Adz{s a b:List UInt8}(h:Pw [] s=some (a,b)):Mi s=if (Ee a&&Ee b&&Dp a != Dp b)=true then some ⟨Dp a,Dp b⟩ else none:=by
 unfold Mi
 rw[h]
 simp only
 cases ha:Ee a with
 | false=>rw[Ard ha];rfl
 | true =>
  cases hb:Ee b with
  | false=>rw[Afi ha,Ard hb];rfl
  | true =>
   rw[Afi ha,Afi hb]
   simp only
   by_cases e:Dp a=Dp b
   ·rw[if_pos e,if_neg (by simp[e])]
   ·rw[if_neg e,if_pos (by simp[e])]
theorem Avb{s:List UInt8}(h:Pw [] s=none):Mi s=if Ee s=true then some ⟨Dp s,Dp s⟩ else none:=by
 unfold Mi
 rw[h]
 simp only
 cases ha:Ee s with
 | false=>rw[Ard ha];rfl
 | true=>rw[Afi ha];rfl
theorem Bcb{a:ByteArray}{l:List ByteArray}{s:ByteArray}:findI (a::l) s=if a.data.toList=s.data.toList then 0 else if findI l s<0 then -1 else findI l s+1:=by
 have b:Xi (a::l) s 0=decide (a.data.toList=s.data.toList):=by
  show (a.toList==s.toList)=_
  rw[Ags,Ags]
  by_cases h:a.data.toList=s.data.toList
  ·rw[h];simp
  ·rw[Hn h];exact beq_eq_false_iff_ne.2 h
 have c:∀j,Xi (a::l) s (j+1)=Xi l s j:=fun j=>rfl
 by_cases h:a.data.toList=s.data.toList
 ·rw[if_pos h]
  unfold findI
  rw[Fh (i:=0) (fun j hj=>absurd hj (by omega)) (by simp) (by rw[b,Hx h])];rfl
 ·rw[if_neg h]
  rw[Hn h]at b
  unfold findI
  rcases Ft (n:=l.length) (p:=Xi l s) with⟨i,hi,hp,hlt,he⟩|⟨d,he⟩
  ·rw[he,Fh (i:=i+1) (fun j hj=>by
    cases j with
    | zero=>exact b
    | succ j=>rw[c];exact Bgr.2 (fun hc=>by have:=hlt j (by omega);rw[hc]at this;cases this)) (by simp;omega) (by rw[c];exact hp)]
   simp only
   rw[if_neg (by omega)];omega
  ·rw[he,Ep (fun j hj=>by
    cases j with
    | zero=>exact b
    | succ j=>rw[c];exact d j (by simp at hj;omega))]
   simp
theorem Blc{s:List UInt8}{i:Nat}{c e:UInt8}(h:Aaj s i)(hc:s[i]?=some c)(h1:c=46)(he:s[i+1]?=some e)(h2:e=46):Pw [] s=some ((s.take i).drop 0,(s.take s.length).drop (i+2)):=by
 rw[Bpk h hc h1 he h2,Sr];rfl
end
section
open Go
theorem Yj{n:Nat}{p q:Nat→Bool}(h:∀i,i<n→p i=q i):Cl n p=Cl n q:=by
 rcases Ft (n:=n) (p:=q) with⟨i,hi,hp,hj,he⟩|⟨a,he⟩
 ·rw[he];exact Fh (fun j hj'=>by rw[h j (by omega)];exact hj j hj') hi (by rw[h i hi];exact hp)
 ·rw[he];exact Ep fun j hj=>by rw[h j hj];exact a j hj
def Ps(c:UInt8)(p:List UInt8):Int:=Oi p (fun x=>x==c)
theorem Tf{c:UInt8}{p:List UInt8}:(∃i:Nat,Ps c p=(i:Int)∧i<p.length∧p[i]?=some c∧∀j,j<i→p[j]?≠some c)∨(Ps c p = -1∧∀x∈p,x≠c):=by
 unfold Ps Oi
 rcases Ft (n:=p.length) (p:=atP p (fun x=>x==c)) with⟨i,hi,hp,hj,he⟩|⟨a,he⟩
 ·refine .inl ⟨i,by rw[he],hi,?_,fun j hj' hc=>?_⟩
  ·obtain⟨x,hx⟩:=Ed hi
   simp only[atP,hx]at hp
   rw[hx,eq_of_beq hp]
  ·have:=hj j hj'
   simp only[atP,hc]at this
   simp at this
 ·refine .inr ⟨by rw[he],fun x hx hc=>?_⟩
  obtain⟨i,hi⟩:=Vg.1 hx
  have:=a i (lZ8.1 hi).1
  simp only[atP,hi,hc]at this
  simp at this
theorem Bol{p:List UInt8}{i:Nat}(h:i<p.length):p[i]?=some ((bs p)[i]!):=by
 show _=some ((ByteArray.mk p.toArray)[i]!)
 rw[Go.Lib.get!_eq,Ajk,Sc h];rfl
theorem Anb{c:UInt8}:Extern.Bytes.asByte (.int .u8 (c.toNat:Int))=Sem.pure c:=by
 show Sem.pure ((c.toNat:Int).toNat.toUInt8)=_
 rw[Aud]
 show Sem.pure (UInt8.ofNat c.toNat)=_
 rw[UInt8.ofNat_toNat]
theorem Bll{P:Program}{ρ:Ro}{σ:Own}{p:List UInt8}{c:UInt8}:wpS P ρ (Extern.BytealgIndexByte.indexByte #[.string (bs p),.int .u8 (c.toNat:Int)]) σ (fun w σ'=>w = .int .i64 (Ps c p)∧σ'=σ):=by
 unfold Extern.BytealgIndexByte.indexByte
 show wpS P ρ ((Extern.Bytes.bytesOf (.string (bs p))).bind _) σ _
 rw[Ad]
 show wpS P ρ ((Extern.Bytes.asByte (.int .u8 (c.toNat:Int))).bind _) σ _
 rw[Ad,Anb]
 have e:((List.range (bs p).size).find? fun i=>(bs p)[i]! == c)=Cl p.length (atP p (fun x=>x==c)):=by
  rw[Mw]
  exact Yj fun i hi=>by simp only[atP,Bol hi]
 show wpS P ρ (match (List.range (bs p).size).find? fun i=>(bs p)[i]! == c with|some i=>pure (goInt i)|none=>pure (goInt (-1))) σ _
 rw[e]
 unfold Ps Oi
 cases Cl p.length (atP p (fun x=>x==c))<;>exact⟨rfl,rfl⟩
theorem Blk{P:Program}{ρ:Ro}{σ:Own}{p:List UInt8}{c:UInt8}:wpS P ρ (Extern.BytealgCount.count #[.string (bs p),.int .u8 (c.toNat:Int)]) σ (fun w σ'=>w = .int .i64 ((p.count c:Nat):Int)∧σ'=σ):=by
 unfold Extern.BytealgCount.count
 show wpS P ρ ((Extern.Bytes.bytesOf (.string (bs p))).bind _) σ _
 rw[Ad]
 show wpS P ρ ((Extern.Bytes.asByte (.int .u8 (c.toNat:Int))).bind _) σ _
 rw[Ad,Anb]
 show goInt ((bs p).foldl (fun (n:Int) x=>if x==c then n+1 else n) ((0:Nat):Int)) = .int .i64 ((p.count c:Nat):Int)∧σ=σ
 rw[Go.Lib.foldl_data,Go.Lib.count_foldl]
 exact⟨by show Value.int .i64 (0+_)=_;rw[Int.zero_add];rfl,rfl⟩
theorem Bkw{α:Type}{s:List α}{m:Nat}{c:α}(h:s[m]?=some c):s=s.take m++c::s.drop (m+1):=by
 conv=>lhs;rw[←Agz m s]
 rw[Ahg h]
theorem Avd{s:List UInt8}{m:Nat}(h:s[m]?=some 32)(hj:∀j,j<m→s[j]?≠some 32):Es s=s.take m::Es (s.drop (m+1)):=by
 conv=>lhs;rw[Bkw h]
 unfold Es
 rw[Aby (fun c hc he=>?_),Xl]
 obtain⟨j,hj'⟩:=Vg.1 hc
 rw[Aez]at hj'
 split at hj'
 ·rename_i hlt;exact hj j hlt (by rw[hj',he])
 ·cases hj'
theorem Ave{s:List UInt8}(h:∀x∈s,x≠32):Es s=[s]:=by
 unfold Es;rw[Aca h,Xl]
theorem Afm:∀{s acc:List UInt8},(Ma 32 acc s).length=s.count 32+1
 | [],acc=>rfl
 | x::s,acc=>by
  show (if x=32 then acc::Ma 32 [] s else Ma 32 (acc++[x]) s).length=_
  rw[List.count_cons]
  split
  ·rename_i h;rw[lZ3,Afm,h];simp
  ·rename_i h;rw[Afm];simp[h]
theorem Apd{s:List UInt8}:(Es s).length=s.count 32+1:=Afm
theorem Bpe{s:List UInt8}{c:UInt8}:s.count c≤s.length:=List.count_le_length
theorem Ayf{L:List (List UInt8)}{s:List UInt8}{i:Nat}(h:L.drop i=Es s)(hi:i+1<L.length):∃m:Nat,Ps 32 s=(m:Int)∧m<s.length∧L[i]?=some (s.take m)∧L.drop (i+1)=Es (s.drop (m+1)):=by
 rcases Tf (c:=32) (p:=s) with⟨m,b,a,d,e⟩|⟨b,a⟩
 ·rw[Avd d e]at h
  refine⟨m,b,a,?_,?_⟩
  ·have:=congrArg (·[0]?) h
   simpa[Xy]using this
  ·have:=congrArg (List.drop 1) h
   rw[Aug]at this
   simpa using this
 ·rw[Ave a]at h
  have:=congrArg List.length h
  rw[lZ4]at this
  simp at this;omega
theorem Aye{L:List (List UInt8)}{s:List UInt8}{i:Nat}(h:L.drop i=Es s)(hi:i+1=L.length):L[i]?=some s:=by
 have hl:=congrArg List.length h
 rw[lZ4]at hl
 rcases Tf (c:=32) (p:=s) with⟨m,b,a,d,e⟩|⟨b,a⟩
 ·rw[Avd d e,lZ3,Apd]at hl;omega
 ·rw[Ave a]at h
  have:=congrArg (·[0]?) h
  simpa[Xy]using this
def spW(L:List (List UInt8))(i:Nat):List ByteArray:=bw (L.take i)++List.replicate (L.length-i) (ByteArray.mk #[])
theorem Bsq{L:List (List UInt8)}{n:Nat}(h:n=L.length):List.replicate n (ByteArray.mk #[])=spW L 0:=by
 unfold spW;rw[h];rfl
theorem Mg{L:List (List UInt8)}{i:Nat}(h:i≤L.length):(spW L i).length=L.length:=by
 unfold spW bw;rw[lZ2,Xe,lZ6,Auc];omega
theorem Bam{L:List (List UInt8)}{i:Nat}{w:List UInt8}(h:L[i]?=some w):(spW L i).set i (bs w)=spW L (i+1):=by
 have hi:i<L.length:=(lZ8.1 h).1
 unfold spW
 have hl:(bw (L.take i)).length=i:=by unfold bw;rw[Xe,lZ6];omega
 rw[List.set_append_right _ _ (by omega),hl,Aoo,show L.length-i=(L.length-(i+1))+1 by omega,Bgp,Bcr,Nj h]
 unfold bw
 rw[Ny,lZ9];rfl
theorem Bmo{L:List (List UInt8)}{i:Nat}(h:i=L.length):(spW L i).take i=bw L:=by
 unfold spW;rw[h,Sr,Aoo,List.replicate_zero,Un]
 exact Ym (by unfold bw;simp)
theorem Brg{P:Program}{ρ:Ro}{e:Env}{ty:TypeId}{x y:Operand}{k:IntKind}{a b r:Nat}{tys:Array TypeId}(h:min a b=r)(hx:Af e x = .int k (a:Int))(hy:Af e y = .int k (b:Int)):Yld P ρ e (.call ⟨.builtin .min,#[x,y],tys⟩) ty (.int k (r:Int)):=by
 have c:=Ajx (P:=P) (ρ:=ρ) (ty:=ty) (tys:=tys) hx hy
 rwa[show min (a:Int) (b:Int)=(r:Int) by omega]at c
theorem Auz{ρ:Ro}:∀(n:Nat),Rows ρ (List.replicate n (Value.string (ByteArray.mk #[]))) (List.replicate n (ByteArray.mk #[]))
 | 0=>rfl
 | n+1=>⟨[.string (ByteArray.mk #[])],List.replicate n (.string (ByteArray.mk #[])),rfl,⟨rfl,by show (0:Nat)<_;decide⟩,Auz n⟩
section
variable{C:Ctx}{e:Env}{ds:List Deferred}{ρ:Ro}{σ:Own}{K:Value→List Deferred→Ro→Own→Prop}{rd:Option Nat}{dd:Option Tmp}
variable{ty:TypeId}{pos:String}{af:Array Edge}{g:Option (Nat×Bool)}{x y:Operand}{t:TypeId}
theorem Ayl{el:TypeId}{ti:TypeInfo}{n:Nat}(hT:C.P.underlying t=some (.slice el))(hi:C.P.info? el=some ti)(hik:ti.size=1)(hib:ti.bytes≤1000)(hz:ti.zero=some (.string (ByteArray.mk #[])))
  (hx:Af e x = .int .i64 (n:Int)) (hy:Af e y = .int .i64 (n:Int)) (hn:n<1073741824) (h:∀v gr,Grow ρ el v (List.replicate n (ByteArray.mk #[])) gr→K v ds ρ (gr++σ)) :
  wpS C.P ρ (execOp (Af e) ⟨dd,.makeSlice t x y,ty,pos,af,g⟩) σ (NextH C K rd ds ρ) :=
 Avn hT hi hik hib hz rfl hx hy hn fun r=>h _ [_] ⟨fun p hp=>by rw[Qp.1 hp];exact⟨_,rfl⟩,by rw[Auc];omega,.inr ⟨r,n,List.replicate n (.string (ByteArray.mk #[])),[],[],by rw[Auc],by rw[Un],Auz n,by rw[Un,Auc];exact(Ajj n).symm,by rw[Auc];exact Jd _⟩⟩
end
end
section
open Go
/-- Without a line feed at the end. -/
def Sa(p:List UInt8):List UInt8:=if (p.drop (p.length-1)==[10])=true then p.take (p.length-1) else p
theorem Boc{c:UInt8}(h:([32]:List UInt8)[0]?=some c):c=32:=by simpa using h.symm
variable{mn:Bool}{X:Frame→List Frame→Ro→Own→Cy→Prop}{ρ:Ro}{σ:Own}
theorem Asp{p:List UInt8}(hb:p.length≤60000):CallsH (CX mn X) 148 #[.string (bs p),.string (bs ([10]:List UInt8))] ρ σ (rP ρ σ (.bool (p.drop (p.length-1)==[10]))):=by
 refine Bq 21 [4] Tryz.func148 rfl fun Q b i=>w_q rfl rfl fun f d=>Au bF (Arx rfl rfl d fun g c=>Av (.string (bs p)) (l_v (Dy Btr (p:=p) rfl) (Av (.string (bs ([10]:List UInt8))) (l_v (Dy Btr (p:=([10]:List UInt8)) rfl) (l_v (Uy rfl rfl) (Av (.bool (decide ((p.length:Int)≥1))) (Cn (decide ((p.length:Int)≥1)) (fun a=>?_) (fun a=>?_))))))))
 ·have e:=lZ1 a
  refine l_M (.string (bs p)) (gY rfl a) rfl (l_M (.string (bs p)) (gY rfl a) rfl (Aa (gY rfl a) (Dy Btr (p:=p) rfl) (l_M (.string (bs ([10]:List UInt8))) (gY rfl a) rfl (Aa (gY rfl a) (Dy Btr (p:=([10]:List UInt8)) rfl) (Aa (gY rfl a) (Ou (p:=(p.length:Int)) (q:=1) rfl rfl (z:=(((p.length-1):Nat):Int)) (Bo (by omega) (by omega) (by omega))) (Aa (gY rfl a) (Ui (p:=p) (l:=p.length-1) (h:=p.length) Btr rfl (.inr ⟨_,rfl,rfl⟩) (.inl ⟨rfl,rfl⟩) (by omega) (by omega)) (l_M (.string (bs ([10]:List UInt8))) (gY rfl a) rfl (Aa (gY rfl a) (Od (p:=(p.take p.length).drop (p.length-1)) (q:=([10]:List UInt8)) rfl rfl) (l_v (Bt rfl a (v:=.bool ((((p.take p.length).drop (p.length-1)))==([10]:List UInt8))) rfl) (Au (.bool ((((p.take p.length).drop (p.length-1)))==([10]:List UInt8))) (l_k c (Aq (b ⟨rfl,rfl,eT (.bool ((((p.take p.length).drop (p.length-1)))==([10]:List UInt8))) ?_⟩)))))))))))))
  rw[Sr]
 have e:=lZ0 a
 refine Ap (gN rfl a) (Ap (gN rfl a) (Ap (gN rfl a) (Ap (gN rfl a) (Ap (gN rfl a) (Ap (gN rfl a) (Ap (gN rfl a) (Ap (gN rfl a) (Ap (gN rfl a) (l_v (Bn rfl a (v:=bF) rfl) (Au bF (l_k c (Aq (b (rT bF ?_))))))))))))))
 have hp:p=[]:=Aqu (by omega)
 subst hp;rfl
theorem Bbt{p:List UInt8}(hb:p.length≤60000):CallsH (CX mn X) 121 #[.string (bs p),.string (bs ([10]:List UInt8))] ρ σ (rP ρ σ (.string (bs (Sa p)))):=by
 refine Bq 16 [4] Tryz.func121 rfl fun Q b u=>w_q rfl rfl fun i c=>Au (.string (ByteArray.mk #[])) (Ary rfl rfl c fun j k d e=>Av (.string (bs p)) (Av (.string (bs ([10]:List UInt8))) (Arv (Bw (Asp (p:=p) (by omega)) Tryz.func148 ?_))))
 refine l_k e (Bf (t:=p.drop (p.length-1)==[10]) rfl (fun a=>?_) (fun a=>?_))
 ·have v:1≤p.length:=by
   cases p with
   | nil=>exact absurd a (by decide)
   | cons=>simp
  refine w_q rfl rfl fun m f=>Av (.string (bs p)) (Av (.string (bs p)) (l_v (Dy Btr (p:=p) rfl) (Av (.string (bs ([10]:List UInt8))) (l_v (Dy Btr (p:=([10]:List UInt8)) rfl) (l_v (Ou (p:=(p.length:Int)) (q:=1) rfl rfl (z:=(((p.length-1):Nat):Int)) (Bo (by omega) (by omega) (by omega))) (l_v (Ui (p:=p) (l:=0) (h:=p.length-1) Btr rfl (.inl ⟨rfl,rfl⟩) (.inr ⟨_,rfl,rfl⟩) (by omega) (by omega)) (Au (.string (bs ((p.take (p.length-1)).drop 0))) (l_k f (Aq (b ⟨rfl,rfl,eT (.string (bs ((p.take (p.length-1)).drop 0))) ?_⟩))))))))))
  unfold Sa;rw[a];rfl
 refine Al (kk d ?_)
 refine w_q rfl rfl fun n g=>Av (.string (bs p)) (Au (.string (bs p)) (l_k g (Aq (b (rT (.string (bs p)) ?_)))))
 unfold Sa;rw[a];rfl
theorem Aqa{p:List UInt8}(hb:p.length≤60000):CallsH (CX mn X) 89 #[.string (bs p),.string (bs ([10]:List UInt8))] ρ σ (rP ρ σ (.string (bs (Sa p)))):=by
 refine Bq 8 [4] Tryz.func89 rfl fun Q a f=>w_q rfl rfl fun d b=>Au (.string (ByteArray.mk #[])) (Arx rfl rfl b fun e c=>Av (.string (bs p)) (Av (.string (bs ([10]:List UInt8))) (Arv (Bw (Bbt (p:=p) (by omega)) Tryz.func121 ?_))))
 refine Au (.string (bs (Sa p))) (l_k c (Aq (a (rT (.string (bs (Sa p))) ?_))))
 rfl
theorem Aax{p:List UInt8}{c:UInt8} :CallsH (CX mn X) 141 #[.string (bs p),.int .u8 (c.toNat:Int)] ρ σ (rP ρ σ (iV (Ps c p))):=by
 refine Bq 8 [4] Bws rfl fun Q a g=>w_q rfl rfl fun e b=>Au (iV 0) (Arx rfl rfl b fun f d=>Av (.string (bs p)) (Av (.int .u8 (c.toNat:Int)) (Ajs rfl Tryz.func156 rfl rfl rfl rfl (Auo rfl rfl) (Bll (p:=p) (c:=c)) (Au (iV (Ps c p)) (l_k d (Aq (a (rT (iV (Ps c p)) ?_))))))))
 rfl
theorem Bbr{p:List UInt8}{c:UInt8} :CallsH (CX mn X) 118 #[.string (bs p),.int .u8 (c.toNat:Int)] ρ σ (rP ρ σ (iV (Ps c p))):=by
 refine Bq 8 [4] Tryz.func118 rfl fun Q a g=>w_q rfl rfl fun e b=>Au (iV 0) (Arx rfl rfl b fun f d=>Av (.string (bs p)) (Av (.int .u8 (c.toNat:Int)) (Arv (Bw (Aax (p:=p) (c:=c)) Bws ?_))))
 refine Au (iV (Ps c p)) (l_k d (Aq (a (rT (iV (Ps c p)) ?_))))
 rfl
theorem Bkh{p:List UInt8} :CallsH (CX mn X) 182 #[.string (bs p),.string (bs ([32]:List UInt8))] ρ σ (rP ρ σ (iV (Ps 32 p))):=by
 refine Bq 143 [4] Bwu rfl fun Q e C=>w_q rfl rfl fun n f=>Au (iV 0) (Arx rfl rfl f fun u g=>Av (.string (bs ([32]:List UInt8))) (l_v (Dy Btr (p:=([32]:List UInt8)) rfl) (Au (iV 1) (Asa g fun w E=>Ao (w_q rfl rfl fun x h=>Av (iV 1) (l_v (Ek rfl rfl) (Av bF (l_M (.string (bs ([32]:List UInt8))) (gY rfl rfl) rfl (l_M (.string (bs p)) (gY rfl rfl) rfl (Aa (gY rfl rfl) (Od (p:=([32]:List UInt8)) (q:=p) rfl rfl) (l_v (Bn rfl rfl (v:=.bool ((([32]:List UInt8))==p)) rfl) (Au (.bool ((([32]:List UInt8))==p)) (l_k h (Bf (t:=(([32]:List UInt8))==p) rfl (fun b=>?_) (fun b=>?_)))))))))))))))
 ·have m:=Jr b
  refine w_q rfl rfl fun y j=>Au (iV 0) (l_k j (Aq (e (rT (iV 0) ?_))))
  have hp:=eq_of_beq b
  rw[←hp];rfl
 have m:=Jq b
 refine w_q rfl rfl fun z k=>Av (iV 1) (l_v (Ek rfl rfl) (Au bT (l_k k (Co rfl rfl (w_q rfl rfl fun B l=>Av (.string (bs p)) (Av (.string (bs ([32]:List UInt8))) ?_))))))
 obtain⟨a,d⟩:=Vr (p:=([32]:List UInt8)) (i:=0) (by decide)
 have D:=a.toNat_lt
 refine l_v (Gp (p:=([32]:List UInt8)) 0 a Btr rfl (q:=0) rfl rfl d) (Arv (Bw (Aax (p:=p) (c:=a)) Bws ?_))
 refine Au (iV (Ps a p)) (l_k l (Aq (e (rT (iV (Ps a p)) ?_))))
 rw[Boc d]
theorem Boq{p:List UInt8} :CallsH (CX mn X) 167 #[.string (bs p),.string (bs ([32]:List UInt8))] ρ σ (rP ρ σ (iV (Ps 32 p))):=by
 refine Bq 8 [4] Tryz.func167 rfl fun Q a f=>w_q rfl rfl fun d b=>Au (iV 0) (Arx rfl rfl b fun e c=>Av (.string (bs p)) (Av (.string (bs ([32]:List UInt8))) (Arv (Bw (Bkh (p:=p)) Bwu ?_))))
 refine Au (iV (Ps 32 p)) (l_k c (Aq (a (rT (iV (Ps 32 p)) ?_))))
 rfl
theorem Bkg{p:List UInt8}{m:Nat}(h:Ps 32 p=(m:Int)):CallsH (CX mn X) 167 #[.string (bs p),.string (bs ([32]:List UInt8))] ρ σ (rP ρ σ (iV m)):=by
 rw[←h];exact Boq
theorem Bkd{p:List UInt8} :CallsH (CX mn X) 166 #[.string (bs p),.string (bs ([32]:List UInt8))] ρ σ (rP ρ σ (iV (p.count 32:Nat))):=by
 refine Bq 34 [4] Tryz.func166 rfl fun Q d v=>w_q rfl rfl fun k e=>Au (iV 0) (Ary rfl rfl e fun l m f g=>Av (.string (bs ([32]:List UInt8))) (l_v (Dy Btr (p:=([32]:List UInt8)) rfl) (l_v (Ek rfl rfl) (l_k g (Cg rfl rfl (Al (kk f ?_)))))))
 refine Asb rfl rfl fun n t x h=>Av (.string (bs ([32]:List UInt8))) (l_v (Dy Btr (p:=([32]:List UInt8)) rfl) (l_v (Ek rfl rfl) (l_k h (Co rfl rfl (w_q rfl rfl fun u j=>Av (.string (bs p)) (Av (.string (bs ([32]:List UInt8))) ?_))))))
 obtain⟨a,b⟩:=Vr (p:=([32]:List UInt8)) (i:=0) (by decide)
 have w:=a.toNat_lt
 refine l_v (Gp (p:=([32]:List UInt8)) 0 a Btr rfl (q:=0) rfl rfl b) (Ajs rfl Tryz.func181 rfl rfl rfl rfl (Auo rfl rfl) (Blk (p:=p) (c:=a)) (Au (iV ((p.count a):Nat)) (l_k j (Aq (d (rT (iV ((p.count a):Nat)) ?_))))))
 rw[Boc b]
theorem Awk{p:List UInt8}(hb:p.length≤60000):CallsH (CX mn X) 157 #[.string (bs p),.string (bs ([32]:List UInt8)),iV 0,iV (-1)] ρ σ (fun w ρ' σ'=>Ro.le ρ ρ'∧σ'=σ∧Val ρ' w (bw (Es p):List ByteArray)):=by
 have hcl:=Bpe (s:=p) (c:=32)
 have hsl:=Apd (s:=p)
 refine Bq 66 [8] Tryz.func157 rfl fun Q D ah=>w_q rfl rfl fun K1 E=>Au nS (Ary rfl rfl E fun K2 K3 N V=>Av (iV (-1)) (l_v (Ek rfl rfl) (l_k V (Cg rfl rfl (Al (kk N ?_))))))
 refine Asb rfl rfl fun K4 K5 W Y=>Av (.string (bs ([32]:List UInt8))) (l_v (Od (p:=([32]:List UInt8)) (q:=([]:List UInt8)) rfl rfl) (l_k Y (Cg rfl (by decide) (Al (kk W ?_)))))
 refine Asb rfl rfl fun K6 K7 Z k7=>Av (iV (-1)) (l_v (Da rfl rfl) (l_k k7 (Co rfl rfl (Ag rfl rfl (Av (.string (bs p)) (Av (.string (bs ([32]:List UInt8))) (Arv (Bw (Bkd (p:=p)) Tryz.func166 ?_))))))))
 refine l_v (Cw ((((p.count 32)+1):Nat):Int)) (Au (iV ((((p.count 32)+1):Nat):Int)) (Arx rfl rfl Z fun K8 k8=>Av (iV ((((p.count 32)+1):Nat):Int)) (Av (.string (bs p)) (l_v (Dy Btr (p:=p) rfl) (l_v (Cw (((p.length+1):Nat):Int)) (l_v (Brg (r:=0+(p.count 32+1)) (by omega) rfl rfl) ?_))))))
 obtain⟨n,hn_⟩:∃z:Nat,z=(0+(p.count 32+1)):=⟨_,rfl⟩
 refine l_v (Cp (v:=iV n) ((show _=Value.int .i64 ((((0+(p.count 32+1))):Nat):Int) from rfl).trans (by rw[hn_]))) ?_
 have hnL:n=(Es p).length:=by omega
 refine Arx rfl rfl k8 fun K9 k9=>Av (iV n) (Arv (Ayl (n:=n) Bts (Ab Bul) rfl nL rfl rfl rfl (by omega) fun b k e=>?_))
 refine Au b (Arx rfl rfl k9 fun a3 F=>Av (iV n) (l_v (Ou (p:=(n:Int)) (q:=1) rfl rfl (z:=(((n-1):Nat):Int)) (Bo (by omega) (by omega) (by omega))) (Au (iV ((n-1):Nat)) (Arx rfl rfl F fun a4 G=>Au (iV 0) (Asa G fun a5 H=>Ao (Cc (fun mm ee dd ρ' σ'=>∃(i:Nat) (s:List UInt8) (ov14_9:Value) (og14_9:Own),(n-i)=mm∧[]=dd∧Ro.le ρ ρ'∧(og14_9++σ)=σ'∧ee 1=(.string (bs ([32]:List UInt8)))∧ee 2=iV 0∧ee 3=(iV ((n-1):Nat))∧ee 0=(.string (bs s))∧ee 9=ov14_9∧ee 10=iV i∧(i+1≤n)∧((Es p).drop i=Es s)∧(s.length≤60000)∧Grow ρ' 9 ov14_9 (spW (Es p) i) og14_9∧True) (m:=_) ⟨0,p,b,k,rfl,rfl,Bxm,rfl,rfl,rfl,rfl,rfl,rfl,rfl,(by omega),(by rw[Afb]),hb,Fy (Bsq hnL) e,trivial⟩ ?_))))))
 rintro m14 e14 _ ρ14 _ ⟨i,s,ov14_9,og14_9,rfl,rfl,l14,rfl,h14_1,h14_2,h14_3,h14_0,h14_9,h14_10,p14_0,p14_1,p14_2,OG14_9,_⟩
 have ai:=Mg (L:=Es p) (i:=i) (by omega)
 refine Asb rfl rfl fun a6 a7 I J=>l_v (Ah (v:=iV i) h14_10) (l_v (Ah (v:=iV ((n-1):Nat)) h14_3) (l_v (Da rfl rfl) (l_k J (Bf (t:=decide ((i:Int)<(((n-1):Nat):Int))) rfl (fun a=>?_) (fun a=>?_)))))
 ·obtain⟨m,y,ag,B,C⟩:=Ayf p14_1 (by have:=lZ1 a;omega)
  have a1:=lZ1 a
  refine Al (kk I ?_)
  refine Ao (w_q rfl rfl fun a8 K=>l_v (Ah (v:=.string (bs s)) h14_0) (l_v (Ah (v:=.string (bs ([32]:List UInt8))) h14_1) (Arv (Bw (Bkg (p:=s) y) Tryz.func167 ?_))))
  refine Au (iV m) (Ary rfl rfl K fun a9 aa M O=>Av (iV m) (l_v (Da rfl rfl) (l_k O (Cg rfl (Hn (by omega)) (Al (kk M ?_))))))
  refine w_q rfl rfl fun ab P=>l_v (Ah (v:=ov14_9) h14_9) (l_v (Ah (v:=iV i) h14_10) (l_v (Ah (v:=.string (bs s)) h14_0) (Av (iV m) (l_v (Ah (v:=iV 0) h14_2) (l_v (Cw (((m+0):Nat):Int)) (l_v (Ui (p:=s) (l:=0) (h:=m+0) Btr rfl (.inl ⟨rfl,rfl⟩) (.inr ⟨_,rfl,rfl⟩) (by first|omega|(rw[Mg (by omega)];omega)|(simp only[Abl];rw[Mg (by omega)];omega)) (by first|omega|(rw[Mg (by omega)];omega)|(simp only[Abl];rw[Mg (by omega)];omega))) (l_v (Nw i Bts ty9.info rfl OG14_9 (q:=(i:Int)) rfl rfl (by first|omega|(rw[Mg (by omega)];omega)|(simp only[Abl];rw[Mg (by omega)];omega)) rfl) (Cx rfl (Avo (σ:=σ) (gr:=og14_9) (i:=i) (v:=ov14_9) (w:=.string (bs ((s.take (m+0)).drop 0))) ty9.info rfl rfl rfl (Nl (l:=(s.take (m+0)).drop 0) (by first|omega|(simp only[lZ4,lZ6];omega))) OG14_9 (by rw[Mg (by omega)];omega) fun u f=>?_)))))))))
  refine Arx rfl rfl P fun ac R=>l_v (Ah (v:=.string (bs s)) h14_0) (Av (iV m) (l_v (Ah (v:=.string (bs ([32]:List UInt8))) h14_1) (l_v (Dy Btr (p:=([32]:List UInt8)) rfl) (l_v (Cw (((m+1):Nat):Int)) (l_v (Ui (p:=s) (l:=m+1) (h:=s.length) Btr rfl (.inr ⟨_,rfl,rfl⟩) (.inl ⟨rfl,rfl⟩) (by first|omega|(rw[Mg (by omega)];omega)|(simp only[Abl];rw[Mg (by omega)];omega)) (by first|omega|(rw[Mg (by omega)];omega)|(simp only[Abl];rw[Mg (by omega)];omega))) (Au (.string (bs ((s.take s.length).drop (m+1)))) (l_k R (Ag rfl rfl (l_v (Ah (v:=iV i) h14_10) (l_v (Cw (((i+1):Nat):Int)) (Au (iV ((i+1):Nat)) (Ac ?_))))))))))))
  refine⟨_,?_,(i+1),((s.take s.length).drop (m+1)),ov14_9,u,rfl,rfl,l14,rfl,h14_1,h14_2,h14_3,rfl,h14_9,rfl,(by omega),(by have:=C;simpa using this),(by simp only[lZ4,lZ6];omega),(Fy (Bam B) f),trivial⟩
  omega
 have a1:=lZ0 a
 refine Bx (kk H ?_)
 refine Ai fun ad T=>?_
 have x:=Aye p14_1 (by omega)
 refine Ag rfl rfl (l_v (Ah (v:=ov14_9) h14_9) (l_v (Ah (v:=iV i) h14_10) (l_v (Ah (v:=.string (bs s)) h14_0) (l_v (Nw i Bts ty9.info rfl OG14_9 (q:=(i:Int)) rfl rfl (by first|omega|(rw[Mg (by omega)];omega)|(simp only[Abl];rw[Mg (by omega)];omega)) rfl) (Cx rfl (Avo (σ:=σ) (gr:=og14_9) (i:=i) (v:=ov14_9) (w:=.string (bs s)) ty9.info rfl rfl rfl (Nl (l:=s) (by first|omega|(simp only[lZ4,lZ6];omega))) OG14_9 (by rw[Mg (by omega)];omega) fun af g=>?_))))))
 refine Arx rfl rfl T fun ae U=>l_v (Ah (v:=ov14_9) h14_9) (l_v (Ah (v:=iV i) h14_10) (l_v (Cw (((i+1):Nat):Int)) (Arw (Alw (i+1) Bts ⟨_,Ab Bul,rfl⟩ rfl g rfl rfl (by first|omega|(rw[Mg (by omega)];omega)|(simp only[Abl];rw[Mg (by omega)];omega))) fun d j=>Au d (l_k U (Hc j fun aj a0 a2=>Aq (D ⟨Bxn l14 a0,rfl,Abz (v:=d) rfl (Val.cast ?_ a2)⟩))))))
 ·rw[Bam x,Bmo (by omega)]
theorem Bkm{p:List UInt8}(hb:p.length≤60000):CallsH (CX mn X) 142 #[.string (bs p),.string (bs ([32]:List UInt8))] ρ σ (fun w ρ' σ'=>Ro.le ρ ρ'∧σ'=σ∧Val ρ' w (bw (Es p):List ByteArray)):=by
 refine Bq 8 [4] Tryz.func142 rfl fun Q d k=>w_q rfl rfl fun i e=>Au nS (Arx rfl rfl e fun j f=>Av (.string (bs p)) (Av (.string (bs ([32]:List UInt8))) (Arv (Cm (vs:=[.string (bs p),.string (bs ([32]:List UInt8)),iV 0,iV (-1)]) (Awk (p:=p) (by omega)) Tryz.func157 rfl rfl ⟨rfl,rfl,rfl,rfl,trivial⟩ fun b l m c=>?_))))
 obtain⟨g,a,h⟩:=c
 replace a:=a.symm;subst a
 refine Au b (l_k f (Aq (d ⟨g,rfl,Abz (v:=b) rfl (Val.cast ?_ h)⟩)))
 ·rfl
end
section
open Go
def dgT(i:Nat):List Bool:=(List.range 256).map fun k=>decide (48≤k)&&decide (k<48+i)
theorem Brz:List.replicate 256 false=dgT 0:=by
 have:(List.replicate 256 false==dgT 0)=true:=by decide +kernel
 exact eq_of_beq this
theorem Bkz{i:Nat}(h:i<10):(dgT i).set (48+i) true=dgT (i+1):=by
 have key:(List.range 10).all (fun i=>(dgT i).set (48+i) true==dgT (i+1))=true:=by decide +kernel
 exact eq_of_beq (Rh.1 key i (Amr.2 h))
theorem Bky{i:Nat}:(dgT i).length=256:=by unfold dgT;simp
theorem Bkx{c:UInt8}:(dgT 10)[c.toNat]?=some (Iq c):=by
 have hc:=c.toNat_lt
 unfold dgT Iq
 rw[Tp,Bgn (by omega)]
 simp only[Auf]
 congr 2
 rw[decide_eq_decide];omega
theorem Bju:Fw Tryz.prog 283 (.agg ((List.replicate 256 false).map Value.bool).toArray):=⟨_,Ab Bvs,by kernel_rfl⟩
def trR(p:List UInt8):List UInt8:=(p.reverse.dropWhile Iq).reverse
def trL(p:List UInt8):List UInt8:=p.dropWhile Iq
def Agt(p:List UInt8):List UInt8:=trL (trR p)
theorem Abo{s:List UInt8}{c:UInt8}(h:s[s.length-1]?=some c):s=s.take (s.length-1)++[c]:=by
 have hl:=(lZ8.1 h).1
 have:=Nj h
 rw[show s.length-1+1=s.length by omega,Sr]at this
 exact this
theorem Biw{s:List UInt8}{c:UInt8}(h:s[s.length-1]?=some c)(hd:Iq c=true):trR (s.take (s.length-1))=trR s:=by
 conv=>rhs;rw[Abo h]
 unfold trR
 rw[List.reverse_append]
 show _=(List.dropWhile Iq (c::(s.take (s.length-1)).reverse)).reverse
 rw[Bco,if_pos hd]
theorem Bix{s:List UInt8}{c:UInt8}(h:s[s.length-1]?=some c)(hd:Iq c=false):trR s=s:=by
 conv=>lhs;rw[Abo h]
 unfold trR
 rw[List.reverse_append]
 show (List.dropWhile Iq (c::(s.take (s.length-1)).reverse)).reverse=_
 rw[Bco,if_neg (by simp[hd]),List.reverse_cons,List.reverse_reverse]
 exact(Abo h).symm
theorem Bmx{s:List UInt8}(h:s.length=0):trR s=s:=by
 rw[Aqu h];rfl
theorem Biu{s:List UInt8}{c:UInt8}(h:s[0]?=some c)(hd:Iq c=true):trL (s.drop 1)=trL s:=by
 cases s with
 | nil=>cases h
 | cons x r =>
  obtain rfl:x=c:=by simpa using h
  show trL r=List.dropWhile Iq (x::r)
  rw[Bco,if_pos hd];rfl
theorem Biv{s:List UInt8}{c:UInt8}(h:s[0]?=some c)(hd:Iq c=false):trL s=s:=by
 cases s with
 | nil=>cases h
 | cons x r =>
  obtain rfl:x=c:=by simpa using h
  show List.dropWhile Iq (x::r)=_
  rw[Bco,if_neg (by simp[hd])]
theorem Bmw{s:List UInt8}(h:s.length=0):trL s=s:=by
 rw[Aqu h];rfl
theorem Bqw{p:List UInt8}:(trR p).length≤p.length:=by
 unfold trR
 rw[List.length_reverse]
 exact Sz (List.dropWhile_sublist _).length_le (by rw[List.length_reverse];exact Jd _)
theorem Anh:∀{p:List UInt8},p.all Iq=true→p.dropWhile Iq=[]
 | [],_=>rfl
 | x::r,h=>by
  rw[Bab,Rb]at h
  rw[Bco,if_pos h.1];exact Anh h.2
theorem Ael:∀{p:List UInt8},p.all Iq=false→∃c r,p.dropWhile Iq=c::r∧Iq c=false
 | [],h=>by cases h
 | x::r,h=>by
  rw[Bco]
  by_cases hx:Iq x=true
  ·rw[if_pos hx]
   exact Ael (by rw[Bab,hx,Ii]at h;exact h)
  ·rw[if_neg hx];exact⟨x,r,rfl,by simpa using hx⟩
theorem Avj{p:List UInt8}:(Agt p != []) = !(p.all Iq):=by
 cases h:p.all Iq with
 | true =>
  have:trR p=[]:=by
   unfold trR;rw[Anh (by rw[List.all_reverse];exact h)];rfl
  unfold Agt;rw[this];rfl
 | false =>
  obtain⟨c,r,a,b⟩:=Ael (p:=p.reverse) (by rw[List.all_reverse];exact h)
  have e:trR p=r.reverse++[c]:=by unfold trR;rw[a,List.reverse_cons]
  have d:(trR p).all Iq=false:=by rw[e,List.all_append];simp[b]
  obtain⟨c',r',f,g⟩:=Ael d
  have:Agt p=c'::r':=f
  rw[this];rfl
def Fk(s:List UInt8):List UInt8:=if (s.take 1==[45])=true then s.drop 1 else s
theorem Beg{s:List UInt8}:(Fk s).length≤s.length:=by
 unfold Fk;split
 ·rw[lZ4];omega
 ·exact Jd _
theorem Bef{s:List UInt8}(h:s≠[45]):Fk s=Oe s:=by
 unfold Fk Oe Rm
 match s with
 | []=>rfl
 | [x] =>
  have hx:x≠45:=fun e=>h (by rw[e])
  simp[hx]
 | x::y::r=>by_cases hx:x=45<;>simp[hx]
theorem Ahm{s:List UInt8}:Ee s=(decide (1≤(Fk s).length)&&decide ((Fk s).length≤9)&&(Fk s).all Iq && !((Fk s).head?==some 48 && !(s==[48]))):=by
 by_cases h:s=[45]
 ·subst h;decide
 ·rw[Bef h];rfl
theorem Bqb{s:List UInt8}(h:¬(1≤(Fk s).length∧(Fk s).length≤9)):Ee s=false:=by
 rw[Ahm]
 by_cases h1:1≤(Fk s).length
 ·rw[Hn (p:=(Fk s).length≤9) (fun a=>h ⟨h1,a⟩)];simp
 ·rw[Hn h1];simp
theorem Bqc{s:List UInt8}(h:(Fk s).all Iq=false):Ee s=false:=by rw[Ahm,h];simp
theorem Bqd{s:List UInt8}{c:UInt8}(h:(Fk s)[0]?=some c)(hc:c=48)(hs:s≠[48]):Ee s=false:=by
 rw[Ahm]
 cases hb:Fk s with
 | nil=>rw[hb]at h;cases h
 | cons x r =>
  rw[hb]at h
  obtain rfl:x=c:=by simpa using h
  subst hc
  have:(s==[48])=false:=by simpa using hs
  rw[this];simp
theorem Bny{s:List UInt8}{c:UInt8}(h1:1≤(Fk s).length)(h9:(Fk s).length≤9)(ha:(Fk s).all Iq=true)(h:(Fk s)[0]?=some c)(hz:c≠48∨s=[48]):Ee s=true:=by
 rw[Ahm,Hx h1,Hx h9,ha]
 rcases hz with hz|hz
 ·cases hb:Fk s with
  | nil=>rw[hb]at h;cases h
  | cons x r =>
   rw[hb]at h
   obtain rfl:x=c:=by simpa using h
   simp[hz]
 ·subst hz;decide
theorem Aou{s:List UInt8}(h:Ee s=true):1≤(Oe s).length∧(Oe s).length≤9∧(Oe s).all Iq=true:=by
 unfold Ee at h
 simp only[Rb,decide_eq_true_eq]at h
 exact⟨h.1.1.1,h.1.1.2,h.1.2⟩
theorem Beh{s:List UInt8}:s.length≤(Oe s).length+1∧(Oe s).length≤s.length:=by
 unfold Oe;split
 ·rename_i h
  rw[lZ4]
  unfold Rm at h
  simp at h;omega
 ·omega
theorem Bqa{s:List UInt8}{c:UInt8}(h:Ee s=true)(hc:s[0]?=some c):(c=45∧Rm s=true)∨(48≤c.toNat∧c.toNat≤57∧Rm s=false):=by
 obtain⟨b,d,a⟩:=Aou h
 cases hm:Rm s with
 | true =>
  refine .inl ⟨?_,rfl⟩
  unfold Rm at hm
  cases s with
  | nil=>cases hc
  | cons x r =>
   obtain rfl:x=c:=by simpa using hc
   simp at hm;exact hm.2
 | false =>
  have hD:Oe s=s:=by unfold Oe;rw[hm];rfl
  rw[hD]at a
  have:=Rh.1 a c (Hd hc)
  unfold Iq at this
  simp at this
  exact .inr ⟨this.1,this.2,rfl⟩
theorem Azg{c:UInt8}(h:Iq c=true):48≤c.toNat∧c.toNat≤57:=by
 unfold Iq at h;simpa using h
theorem Bee{d:List UInt8}{i:Nat}{c:UInt8}(ha:d.all Iq=true)(h:d[i]?=some c):Iq c=true:=Rh.1 ha c (Hd h)
end
section
open Go
theorem Bsa{i:Nat}{c:UInt8}(h:bZ0[i]?=some c):i<10∧c.toNat=48+i:=by
 have hi:i<10:=(lZ8.1 h).1
 have key:(List.range 10).all (fun i=>(bZ0[i]?).all fun c=>c.toNat==48+i)=true:=by decide
 have:=Rh.1 key i (Amr.2 hi)
 rw[h]at this
 exact⟨hi,eq_of_beq this⟩
variable{mn:Bool}{X:Frame→List Frame→Ro→Own→Cy→Prop}{ρ:Ro}{σ:Own}
theorem Aso{p:List UInt8}(hb:p.length≤60000):CallsH (CX mn X) 183 #[.string (bs p),.string (bs ([45]:List UInt8))] ρ σ (rP ρ σ (.bool (p.take 1==[45]))):=by
 refine Bq 18 [4] Tryz.func183 rfl fun Q b i=>w_q rfl rfl fun f d=>Au bF (Arx rfl rfl d fun g c=>Av (.string (bs p)) (l_v (Dy Btr (p:=p) rfl) (Av (.string (bs ([45]:List UInt8))) (l_v (Dy Btr (p:=([45]:List UInt8)) rfl) (l_v (Uy rfl rfl) (Av (.bool (decide ((p.length:Int)≥1))) (Cn (decide ((p.length:Int)≥1)) (fun a=>?_) (fun a=>?_))))))))
 ·have e:=lZ1 a
  refine l_M (.string (bs p)) (gY rfl a) rfl (l_M (.string (bs ([45]:List UInt8))) (gY rfl a) rfl (Aa (gY rfl a) (Dy Btr (p:=([45]:List UInt8)) rfl) (Aa (gY rfl a) (Ui (p:=p) (l:=0) (h:=1) Btr rfl (.inl ⟨rfl,rfl⟩) (.inr ⟨_,rfl,rfl⟩) (by omega) (by omega)) (l_M (.string (bs ([45]:List UInt8))) (gY rfl a) rfl (Aa (gY rfl a) (Od (p:=(p.take 1).drop 0) (q:=([45]:List UInt8)) rfl rfl) (l_v (Bt rfl a (v:=.bool ((((p.take 1).drop 0))==([45]:List UInt8))) rfl) (Au (.bool ((((p.take 1).drop 0))==([45]:List UInt8))) (l_k c (Aq (b ⟨rfl,rfl,eT (.bool ((((p.take 1).drop 0))==([45]:List UInt8))) ?_⟩))))))))))
  rfl
 have e:=lZ0 a
 refine Ap (gN rfl a) (Ap (gN rfl a) (Ap (gN rfl a) (Ap (gN rfl a) (Ap (gN rfl a) (Ap (gN rfl a) (l_v (Bn rfl a (v:=bF) rfl) (Au bF (l_k c (Aq (b (rT bF ?_)))))))))))
 have hp:p=[]:=Aqu (by omega)
 subst hp;rfl
theorem Bbs{p:List UInt8}(hb:p.length≤60000):CallsH (CX mn X) 169 #[.string (bs p),.string (bs ([45]:List UInt8))] ρ σ (rP ρ σ (.string (bs (Fk p)))):=by
 refine Bq 13 [4] Tryz.func169 rfl fun Q b q=>w_q rfl rfl fun i c=>Au (.string (ByteArray.mk #[])) (Ary rfl rfl c fun j k d e=>Av (.string (bs p)) (Av (.string (bs ([45]:List UInt8))) (Arv (Bw (Aso (p:=p) (by omega)) Tryz.func183 ?_))))
 refine l_k e (Bf (t:=p.take 1==[45]) rfl (fun a=>?_) (fun a=>?_))
 ·have u:1≤p.length:=by
   cases p with
   | nil=>exact absurd a (by decide)
   | cons=>simp
  refine w_q rfl rfl fun m f=>Av (.string (bs p)) (Av (.string (bs ([45]:List UInt8))) (l_v (Dy Btr (p:=([45]:List UInt8)) rfl) (l_v (Ui (p:=p) (l:=1) (h:=p.length) Btr rfl (.inr ⟨_,rfl,rfl⟩) (.inl ⟨rfl,rfl⟩) (by omega) (by omega)) (Au (.string (bs ((p.take p.length).drop 1))) (l_k f (Aq (b (rT (.string (bs ((p.take p.length).drop 1))) ?_))))))))
  unfold Fk;rw[a,Sr];rfl
 refine Al (kk d ?_)
 refine w_q rfl rfl fun n g=>Av (.string (bs p)) (Au (.string (bs p)) (l_k g (Aq (b (rT (.string (bs p)) ?_)))))
 unfold Fk;rw[a];rfl
theorem Apy{p:List UInt8}(hb:p.length≤60000):CallsH (CX mn X) 160 #[.string (bs p),.string (bs ([45]:List UInt8))] ρ σ (rP ρ σ (.string (bs (Fk p)))):=by
 refine Bq 8 [4] Tryz.func160 rfl fun Q a f=>w_q rfl rfl fun d b=>Au (.string (ByteArray.mk #[])) (Arx rfl rfl b fun e c=>Av (.string (bs p)) (Av (.string (bs ([45]:List UInt8))) (Arv (Bw (Bbs (p:=p) (by omega)) Tryz.func169 ?_))))
 refine Au (.string (bs (Fk p))) (l_k c (Aq (a (rT (.string (bs (Fk p))) ?_))))
 rfl
theorem Bbv  :CallsH (CX mn X) 172 #[.string (bs bZ0)] ρ σ (rP ρ σ (.tuple #[.agg ((dgT 10).map Value.bool).toArray,bT])):=by
 refine Lt (n:=21) (args:=[.string (bs bZ0)]) [.cell 2 283,.tmp 3] Tryz.func172 rfl rfl rfl rfl fun Q e P=>w_q rfl rfl fun E h=>Arv (Ct Bju fun d=>?_)
 refine Au bF (Ary rfl rfl h fun J K x y=>Au (iV 0) (l_k y (Ao (Cc (fun mm ee dd ρ' σ'=>∃(i:Nat) (rx5_2:List Bool),(10-i)=mm∧[]=dd∧ρ=ρ'∧((d,oC (rx5_2.map Value.bool).toArray 283)::σ)=σ'∧ee 0=(.string (bs bZ0))∧ee 2=pV d∧ee 4=iV i∧(i≤10)∧rx5_2=dgT i∧rx5_2.length=256∧True) (m:=_) ⟨0,List.replicate 256 false,rfl,rfl,rfl,rfl,rfl,rfl,rfl,Gn _,Brz,Auc,trivial⟩ ?_))))
 rintro m5 e5 _ _ _ ⟨i,rx5_2,rfl,rfl,rfl,rfl,h5_0,h5_2,h5_4,p5_0,RX5_2,RL5_2,_⟩
 refine Asb rfl rfl fun L M z B=>l_v (Ah (v:=iV i) h5_4) (l_v (Ah (v:=.string (bs bZ0)) h5_0) (l_v (Dy Btr (p:=bZ0) rfl) (l_v (Da rfl rfl) (l_k B (Bf (t:=decide ((i:Int)<10)) rfl (fun b=>?_) (fun b=>?_))))))
 ·have D:=lZ1 b
  refine Al (kk z ?_)
  refine Ai fun N C=>Ao (w_q rfl rfl fun F k=>l_v (Ah (v:=.string (bs bZ0)) h5_0) (l_v (Ah (v:=iV i) h5_4) ?_))
  obtain⟨a,c⟩:=Vr (p:=bZ0) (i:=i) (by first|omega|(show _<10;omega))
  have R:=a.toNat_lt
  obtain⟨O,g⟩:=Bsa c
  refine l_v (Gp (p:=bZ0) i a Btr rfl (q:=(i:Int)) rfl rfl c) (Au (.int .u8 (a.toNat:Int)) (Ary rfl rfl k fun G H l u=>Av (.int .u8 (a.toNat:Int)) (l_v (Uy rfl rfl) (l_k u (Cg rfl (Hn (by omega)) (Al (kk l ?_)))))))
  refine Ag rfl rfl (Av (.int .u8 (a.toNat:Int)) (l_v (Cq (k':=1) a.toNat Bwg ⟨_,Ab Bvj,rfl⟩ h5_2 (q:=(a.toNat:Int)) rfl rfl (by first|omega|(show _<10;omega)) (off':=a.toNat) (by omega)) (Cx rfl (Zx (j:=0) (f:=Value.bool) (i:=a.toNat) (bv:=true) ⟨_,Ab Bvj,rfl⟩ rfl rfl rfl rfl (by rw[RL5_2];omega) ?_))))
  refine l_k C (Ag rfl rfl (l_v (Ah (v:=iV i) h5_4) (l_v (Cw (((i+1):Nat):Int)) (Au (iV ((i+1):Nat)) (Ac ?_)))))
  refine⟨_,?_,(i+1),(rx5_2.set a.toNat true),rfl,rfl,rfl,rfl,h5_0,h5_2,rfl,(by omega),(by rw[RX5_2,g];exact Bkz (by omega)),(List.length_set.trans RL5_2),trivial⟩
  omega
 have D:=lZ0 b
 refine Bx (kk x ?_)
 refine w_q rfl rfl fun I w=>Arv (Afr (i:=0) (f:=Value.bool) (xs:=rx5_2) ⟨_,Bwg,rfl⟩ ⟨_,Ab Bvs,rfl⟩ h5_2 rfl RL5_2 ?_)
 refine Cx rfl (Acb (i:=0) (f:=Value.bool) (xs:=rx5_2) (ys:=rx5_2) ⟨_,Ab Bvs,rfl⟩ h5_2 rfl (fun _=>rfl) rfl RL5_2 RL5_2 ?_)
 refine Au bT (l_k w (Aq (e _ _ _ _ _ [.agg (rx5_2.map Value.bool).toArray,bT] ⟨Qh ⟨_,Bwg,rfl⟩ ⟨_,Ab Bvs,rfl⟩ h5_2 (i:=0) rfl (by simp[RL5_2];try rfl),rfl,trivial⟩ Bxi (rT (.tuple #[.agg (rx5_2.map Value.bool).toArray,bT]) ?_))))
 rw[RX5_2,show i=10 by omega]
theorem Aie{r:Nat}{c:UInt8} :CallsH (CX mn X) 184 #[pV r,.int .u8 (c.toNat:Int)] ρ ((r,oC (((dgT 10)).map Value.bool).toArray 283)::σ) (fun w ρ' σ'=>ρ'=ρ∧σ'=(r,oC ((dgT 10).map Value.bool).toArray 283)::σ∧w = .bool (Iq c)):=by
 have hcl:=c.toNat_lt
 refine Bq 10 [4] Tryz.func184 rfl fun Q a h=>w_q rfl rfl fun e b=>Au bF (Arx rfl rfl b fun g d=>Av (pV r) (Av (.int .u8 (c.toNat:Int)) (l_v (Ck rfl) (l_v (Cq (k':=1) c.toNat Bwg ⟨_,Ab Bvj,rfl⟩ rfl (q:=(c.toNat:Int)) rfl rfl (by omega) (off':=c.toNat) (by omega)) (Arv (Adu (j:=0) (f:=Value.bool) (i:=c.toNat) (bv:=Iq c) ⟨_,Bvm,rfl⟩ rfl rfl Bkx ?_))))))
 refine Au (.bool (Iq c)) (l_k d (Aq (a (rT (.bool (Iq c)) ?_))))
 rfl
theorem Bks{r:Nat}{p:List UInt8}(hb:p.length≤60000):CallsH (CX mn X) 173 #[.string (bs p),pV r] ρ ((r,oC (((dgT 10)).map Value.bool).toArray 283)::σ) (fun w ρ' σ'=>ρ'=ρ∧σ'=(r,oC ((dgT 10).map Value.bool).toArray 283)::σ∧w = .string (bs (trL p))):=by
 refine Bq 16 [4] Tryz.func173 rfl fun Q j R=>w_q rfl rfl fun I z=>Au (.string (ByteArray.mk #[])) (Asa z fun L k=>Ao (Cc (fun mm ee dd ρ' σ'=>∃(s:List UInt8),(s.length)=mm∧[]=dd∧ρ=ρ'∧((r,oC (((dgT 10)).map Value.bool).toArray 283)::σ)=σ'∧ee 1=pV r∧ee 0=(.string (bs s))∧(trL s=trL p)∧(s.length≤p.length)∧True) (m:=_) ⟨p,rfl,rfl,rfl,rfl,rfl,rfl,rfl,Jd _,trivial⟩ ?_))
 rintro m3 e3 _ _ _ ⟨s,rfl,rfl,rfl,rfl,h3_1,h3_0,p3_0,p3_1,_⟩
 refine Asb rfl rfl fun M N D E=>l_v (Ah (v:=.string (bs s)) h3_0) (l_v (Dy Btr (p:=s) rfl) (l_v (Gl rfl rfl) (l_k E (Bf (t:=decide ((s.length:Int)>0)) rfl (fun d=>?_) (fun d=>?_)))))
 ·have H:=lZ1 d
  refine Al (kk D ?_)
  refine Ao (Asb rfl rfl fun O P F G=>l_v (Ah (v:=pV r) h3_1) (l_v (Ah (v:=.string (bs s)) h3_0) ?_))
  obtain⟨a,e⟩:=Vr (p:=s) (i:=0) (by omega)
  have T:=a.toNat_lt
  refine l_v (Gp (p:=s) 0 a Btr rfl (q:=0) rfl rfl e) (Arv (Cm (vs:=[pV r,.int .u8 (a.toNat:Int)]) (Aie (r:=r) (c:=a)) Tryz.func184 rfl rfl ⟨rfl,rfl,trivial⟩ fun U V W x=>?_))
  obtain⟨f,g,y⟩:=x
  replace f:=f.symm;replace g:=g.symm;subst f g y
  refine l_v (Iy rfl) (l_k G (Bf (t:=!(Iq a)) rfl (fun b=>?_) (fun b=>?_)))
  ·have hdl:((s.take s.length).drop 1).length<s.length:=by simp only[lZ4,lZ6];omega
   have n:=not_eq_t b
   have hdl:((s.take s.length).drop 1).length<s.length:=by simp only[lZ4,lZ6];omega
   refine Bx (kk k ?_)
   refine w_q rfl rfl fun J B=>l_v (Ah (v:=.string (bs s)) h3_0) (Au (.string (bs s)) (l_k B (Aq (j (rT (.string (bs s)) ?_)))))
   rw[←p3_0,Biv e (by simpa using n)]
  have hdl:((s.take s.length).drop 1).length<s.length:=by simp only[lZ4,lZ6];omega
  have u:=not_eq_f b
  have hdl:((s.take s.length).drop 1).length<s.length:=by simp only[lZ4,lZ6];omega
  refine Al (kk F ?_)
  refine Ag rfl rfl (l_v (Ah (v:=.string (bs s)) h3_0) (l_v (Ui (p:=s) (l:=1) (h:=s.length) Btr rfl (.inr ⟨_,rfl,rfl⟩) (.inl ⟨rfl,rfl⟩) (by omega) (by omega)) (Au (.string (bs ((s.take s.length).drop 1))) (Ac ?_))))
  refine⟨_,?_,((s.take s.length).drop 1),rfl,rfl,rfl,rfl,h3_1,rfl,(by have:=Biu e (by simpa using u);rw[Sr];exact this.trans p3_0),(by simp only[lZ4,lZ6];omega),trivial⟩
  omega
 have H:=lZ0 d
 refine Bx (kk k ?_)
 refine w_q rfl rfl fun K C=>l_v (Ah (v:=.string (bs s)) h3_0) (Au (.string (bs s)) (l_k C (Aq (j (rT (.string (bs s)) ?_)))))
 rw[←p3_0,Bmw (by omega)]
theorem Bkt{r:Nat}{p:List UInt8}(hb:p.length≤60000):CallsH (CX mn X) 174 #[.string (bs p),pV r] ρ ((r,oC (((dgT 10)).map Value.bool).toArray 283)::σ) (fun w ρ' σ'=>ρ'=ρ∧σ'=(r,oC ((dgT 10).map Value.bool).toArray 283)::σ∧w = .string (bs (trR p))):=by
 refine Bq 22 [4] Tryz.func174 rfl fun Q j T=>w_q rfl rfl fun J B=>Au (.string (ByteArray.mk #[])) (Asa B fun M k=>Ao (Cc (fun mm ee dd ρ' σ'=>∃(s:List UInt8),(s.length)=mm∧[]=dd∧ρ=ρ'∧((r,oC (((dgT 10)).map Value.bool).toArray 283)::σ)=σ'∧ee 1=pV r∧ee 0=(.string (bs s))∧(trR s=trR p)∧(s.length≤p.length)∧True) (m:=_) ⟨p,rfl,rfl,rfl,rfl,rfl,rfl,rfl,Jd _,trivial⟩ ?_))
 rintro m3 e3 _ _ _ ⟨s,rfl,rfl,rfl,rfl,h3_1,h3_0,p3_0,p3_1,_⟩
 refine Asb rfl rfl fun N O E F=>l_v (Ah (v:=.string (bs s)) h3_0) (l_v (Dy Btr (p:=s) rfl) (l_v (Gl rfl rfl) (l_k F (Bf (t:=decide ((s.length:Int)>0)) rfl (fun d=>?_) (fun d=>?_)))))
 ·have I:=lZ1 d
  refine Al (kk E ?_)
  refine Ao (Asb rfl rfl fun P R G H=>l_v (Ah (v:=pV r) h3_1) (l_v (Ah (v:=.string (bs s)) h3_0) (l_v (Ah (v:=.string (bs s)) h3_0) (l_v (Dy Btr (p:=s) rfl) (l_v (Ou rfl rfl (z:=(((s.length-1):Nat):Int)) (Bo (by omega) (by omega) (by omega))) ?_)))))
  obtain⟨a,e⟩:=Vr (p:=s) (i:=s.length-1) (by omega)
  have U:=a.toNat_lt
  refine l_v (Gp (p:=s) (s.length-1) a Btr rfl (q:=(((s.length-1):Nat):Int)) rfl rfl e) (Arv (Cm (vs:=[pV r,.int .u8 (a.toNat:Int)]) (Aie (r:=r) (c:=a)) Tryz.func184 rfl rfl ⟨rfl,rfl,trivial⟩ fun V W Y x=>?_))
  obtain⟨f,g,y⟩:=x
  replace f:=f.symm;replace g:=g.symm;subst f g y
  refine l_v (Iy rfl) (l_k H (Bf (t:=!(Iq a)) rfl (fun b=>?_) (fun b=>?_)))
  ·have hdl:((s.take (s.length-1)).drop 0).length<s.length:=by simp only[lZ4,lZ6];omega
   have n:=not_eq_t b
   have hdl:((s.take (s.length-1)).drop 0).length<s.length:=by simp only[lZ4,lZ6];omega
   refine Bx (kk k ?_)
   refine w_q rfl rfl fun K C=>l_v (Ah (v:=.string (bs s)) h3_0) (Au (.string (bs s)) (l_k C (Aq (j (rT (.string (bs s)) ?_)))))
   rw[←p3_0,Bix e (by simpa using n)]
  have hdl:((s.take (s.length-1)).drop 0).length<s.length:=by simp only[lZ4,lZ6];omega
  have u:=not_eq_f b
  have hdl:((s.take (s.length-1)).drop 0).length<s.length:=by simp only[lZ4,lZ6];omega
  refine Al (kk G ?_)
  refine Ag rfl rfl (l_v (Ah (v:=.string (bs s)) h3_0) (l_v (Ah (v:=.string (bs s)) h3_0) (l_v (Dy Btr (p:=s) rfl) (l_v (Ou rfl rfl (z:=(((s.length-1):Nat):Int)) (Bo (by omega) (by omega) (by omega))) (l_v (Ui (p:=s) (l:=0) (h:=s.length-1) Btr rfl (.inl ⟨rfl,rfl⟩) (.inr ⟨_,rfl,rfl⟩) (by omega) (by omega)) (Au (.string (bs ((s.take (s.length-1)).drop 0))) (Ac ?_)))))))
  refine⟨_,?_,((s.take (s.length-1)).drop 0),rfl,rfl,rfl,rfl,h3_1,rfl,((Biw e (by simpa using u)).trans p3_0),(by simp only[lZ4,lZ6];omega),trivial⟩
  omega
 have I:=lZ0 d
 refine Bx (kk k ?_)
 refine w_q rfl rfl fun L D=>l_v (Ah (v:=.string (bs s)) h3_0) (Au (.string (bs s)) (l_k D (Aq (j (rT (.string (bs s)) ?_)))))
 rw[←p3_0,Bmx (by omega)]
theorem Bor{p:List UInt8}(hb:p.length≤60000):CallsH (CX mn X) 161 #[.string (bs p),.string (bs bZ0)] ρ σ (rP ρ σ (.string (bs (Agt p)))):=by
 refine Bq 43 [4] Tryz.func161 rfl fun Q h O=>w_q rfl rfl fun E t=>Au (.string (ByteArray.mk #[])) (Ary rfl rfl t fun H I x j=>Av (.string (bs p)) (l_v (Od (p:=p) (q:=([]:List UInt8)) rfl rfl) (Av (.bool (p==([]:List UInt8))) (Cn (p==([]:List UInt8)) (fun a=>?_) (fun a=>?_)))))
 ·have D:=Jr a
  refine Ap (gN rfl a) (Ap (gN rfl a) (l_v (Bt rfl a (v:=bT) rfl) (l_k j (Co rfl rfl (w_q rfl rfl fun J y=>Av (.string (bs p)) (Au (.string (bs p)) (l_k y (Aq (h (rT (.string (bs p)) ?_))))))))))
  have hp:=eq_of_beq a
  subst hp;rfl
 have D:=Jq a
 refine l_M (.string (bs bZ0)) (gY rfl a) rfl (Aa (gY rfl a) (Od (p:=bZ0) (q:=([]:List UInt8)) rfl rfl) (l_v (Bn rfl a (v:=.bool ((bZ0)==([]:List UInt8))) rfl) (l_k j (Cg rfl (by decide) (Al (kk x ?_))))))
 refine Asb rfl rfl fun K L z B=>Av (.string (bs bZ0)) (l_v (Dy Btr (p:=bZ0) rfl) (l_v (Ek rfl rfl) (Av bF (Ap (gN rfl rfl) (Ap (gN rfl rfl) (Ap (gN rfl rfl) (l_v (Bn rfl rfl (v:=bF) rfl) (l_k B (Cg rfl rfl (Al (kk z ?_)))))))))))
 refine Asb rfl rfl fun M N P C=>Av (.string (bs bZ0)) (Arv (Bw Bbv Tryz.func172 ?_))
 refine Av (.tuple #[.agg ((dgT 10).map Value.bool).toArray,bT]) (l_v (Bp (.agg ((dgT 10).map Value.bool).toArray)) (l_v (Bp bT) (Arv (Ct Bju fun b=>?_))))
 refine Cx rfl (Acb (i:=0) (f:=Value.bool) (xs:=List.replicate 256 false) (ys:=dgT 10) ⟨_,Ab Bvs,rfl⟩ rfl rfl (fun _=>rfl) rfl Bky Auc ?_)
 refine Au bT (Arx rfl rfl C fun F u=>Av bT (l_k u (Co rfl rfl (w_q rfl rfl fun G w=>Av (.string (bs p)) (Arv (Cm (vs:=[.string (bs p),pV b]) (Bkt (r:=b) (p:=p) (by omega)) Tryz.func174 rfl rfl ⟨rfl,rfl,trivial⟩ fun R U W k=>?_))))))
 obtain⟨c,e,m⟩:=k
 replace c:=c.symm;replace e:=e.symm;subst c e m
 refine Arv (Cm (vs:=[.string (bs (trR p)),pV b]) (Bks (r:=b) (p:=trR p) (Sz Bqw hb)) Tryz.func173 rfl rfl ⟨rfl,rfl,trivial⟩ fun T V Y l=>?_)
 obtain⟨d,g,n⟩:=l
 replace d:=d.symm;replace g:=g.symm;subst d g n
 refine Au (.string (bs (trL (trR p)))) (l_k w (Aj Bxi (Aq (h (rT (.string (bs (trL (trR p)))) ?_)))))
 rfl
end
section
open Go
section
variable{P:Program}{ρ:Ro}{e:Env}{ty t t':TypeId}{x:Operand}{v:Value}{tt:TypeId}
theorem Atq{ρ':Ro}{σ:Own}{ms:Array (String×TypeId)}(hT:P.underlying t=some (.interface ms)){w:Value}{b:Bool}(hb:(w = .nilIface∧b=true)∨∃tt v,w = .iface tt v∧b=false){Q:Bool→Own→Prop}(h:Q b σ):wpS P ρ' (Op.equal t w .nilIface) σ Q:=by
 show wpS P ρ' ((underlying t).bind _) σ Q
 rw[Ad]
 refine Az hT ?_
 rcases hb with⟨rfl,rfl⟩|⟨tt,v,rfl,rfl⟩<;>exact h
theorem Wm{ms:Array (String×TypeId)}{w:Value}{b:Bool}(hT:P.underlying t=some (.interface ms))(hb:(w = .nilIface∧b=true)∨∃tt v,w = .iface tt v∧b=false)(hx:Af e x=w):Yld P ρ e (.binOp .eql t x (.const .nilIface) t') ty (.bool b) :=
 Mt (s:=(do eqGuard .eql t x (.const .nilIface) (Af e x) .nilIface;binOp .eql t (Af e x) .nilIface)) (fun _ _ _ _=>rfl) fun ρ' σ _=>by
  rw[hx]
  have hg:eqGuard .eql t x (.const .nilIface) w .nilIface=pure ():=by
   rcases hb with⟨rfl,-⟩|⟨tt,v,rfl,-⟩
   ·unfold eqGuard;simp
   ·rfl
  rw[hg]
  have a:binOp .eql t w .nilIface=(Op.equal t w .nilIface).bind fun b=>Sem.pure (.bool b):=by
   rcases hb with⟨rfl,-⟩|⟨tt,v,rfl,-⟩<;>rfl
  show wpS P ρ' (binOp .eql t w .nilIface) σ _
  rw[a,Ad]
  exact Atq hT hb ⟨rfl,rfl⟩
theorem Afx{ms:Array (String×TypeId)}{w:Value}{b:Bool}(hT:P.underlying t=some (.interface ms))(hb:(w = .nilIface∧b=true)∨∃tt v,w = .iface tt v∧b=false)(hx:Af e x=w):Yld P ρ e (.binOp .neq t x (.const .nilIface) t') ty (.bool (!b)) :=
 Mt (s:=(do eqGuard .neq t x (.const .nilIface) (Af e x) .nilIface;binOp .neq t (Af e x) .nilIface)) (fun _ _ _ _=>rfl) fun ρ' σ _=>by
  rw[hx]
  have hg:eqGuard .neq t x (.const .nilIface) w .nilIface=pure ():=by
   rcases hb with⟨rfl,-⟩|⟨tt,v,rfl,-⟩
   ·unfold eqGuard;simp
   ·rfl
  rw[hg]
  have a:binOp .neq t w .nilIface=(Op.equal t w .nilIface).bind fun b=>Sem.pure (.bool (!b)):=by
   rcases hb with⟨rfl,-⟩|⟨tt,v,rfl,-⟩<;>rfl
  show wpS P ρ' (binOp .neq t w .nilIface) σ _
  rw[a,Ad]
  exact Atq hT hb ⟨rfl,rfl⟩
end
end
section
open Go
section
variable{mn:Bool}{X:Frame→List Frame→Ro→Own→Cy→Prop}{b:FB}{n:Nat}{e:Env}{ds:List Deferred}{ρ:Ro}{σ:Own}{K:Value→List Deferred→Ro→Own→Prop}{rd:Option Nat}{dd:Option Tmp}
variable{ty:TypeId}{pos:String}{af:Array Edge}{g:Option (Nat×Bool)}{x y z:Operand}{v v2 p:Value}{t t':TypeId}
theorem Bsy{P:Program}{e:Env}{ρ:Ro}{ty t:TypeId}{x:Operand}{k:IntKind}{p z:Int}(hx:Af e x = .int k p)(hz:k.wrap (0-p)=z):Yld P ρ e (.unOp .neg t x) ty (.int k z) :=
 Mt (s:=Op.unary .neg (Af e x)) (fun _ _ _ _=>rfl) fun ρ' σ _=>by rw[hx];subst hz;exact⟨rfl,rfl⟩
end
end
section
open Go
variable{mn:Bool}{X:Frame→List Frame→Ro→Own→Cy→Prop}{ρ:Ro}{σ:Own}
theorem Bkb{s:List UInt8}(hz:Ee s=true):CallsH (CX mn X) 177 #[.string (bs s)] ρ σ (fun w ρ' σ'=>Ro.le ρ ρ'∧σ'=σ∧w = .tuple #[iV (Rq s),.nilIface]):=by
 obtain⟨I,J,f⟩:=Aou hz
 obtain⟨c7,c9⟩:=Beh (s:=s)
 refine Bq 77 [2,3] Tryz.func177 rfl fun Q K c4=>w_q rfl rfl fun K1 Y=>Au (iV 0) (Au .nilIface (Arx rfl rfl Y fun K2 k2=>Av (.string (bs s)) (l_v (Dy Btr (p:=s) rfl) (Au (iV (s.length:Int)) (Ary rfl rfl k2 fun K3 K4 k3 k4=>Av bF (Ap (gN rfl rfl) (Ap (gN rfl rfl) (Ap (gN rfl rfl) (Ap (Jf rfl rfl rfl) (Ap (Jf rfl rfl rfl) (Ap (gN rfl rfl) (l_v (Bn rfl rfl (v:=bF) rfl) (Av bF (l_M bT (gY rfl rfl) rfl (l_M (iV (s.length:Int)) (gY rfl rfl) rfl (Aa (gY rfl rfl) (Da rfl rfl) (l_M (.bool (decide (0<(s.length:Int)))) (gY rfl rfl) rfl (l_M (iV (s.length:Int)) (gY rfl (Hx (by omega))) rfl (Aa (gY rfl (Hx (by omega))) (Da rfl rfl) (Aa (gY rfl rfl) (Bt rfl (Hx (by omega)) (v:=.bool (decide ((s.length:Int)<19))) rfl) (Aa (gY rfl rfl) (Bt rfl rfl (v:=.bool (decide ((s.length:Int)<19))) rfl) (l_v (Bn rfl rfl (v:=.bool (decide ((s.length:Int)<19))) rfl) (l_k k4 (Co rfl (Hx (by omega)) (w_q rfl rfl fun K5 k5=>Av (.string (bs s)) (Au (.string (bs s)) (Ary rfl rfl k5 fun K6 K7 N O=>Av (.string (bs s)) ?_)))))))))))))))))))))))))))
 obtain⟨g,j⟩:=Vr (p:=s) (i:=0) (by omega)
 have ca:=g.toNat_lt
 have D:=Bqa hz j
 refine l_v (Gp (p:=s) 0 g Btr rfl (q:=0) rfl rfl j) (l_v (Ek rfl rfl) (Av (.bool ((g.toNat:Int)==45)) (Cn ((g.toNat:Int)==45) (fun a=>?_) (fun a=>?_))))
 ·have hm:Rm s=true:=by
   rcases D with⟨_,h⟩|⟨h,_,_⟩
   ·exact h
   ·exfalso;have:=Jr a;omega
  have hD:Oe s=((s.take s.length).drop 1):=(Bdn hm).symm
  have f:=f;rw[hD]at f;have E:=I;have F:=J;rw[hD]at E F
  have q9:=Jr a
  refine Ap (gN rfl a) (Ap (gN rfl a) (Ap (gN rfl a) (l_v (Bt rfl a (v:=bT) rfl) (l_k O (Co rfl rfl (w_q rfl rfl fun az Z=>Av (.string (bs s)) (l_v (Ui (p:=s) (l:=1) (h:=s.length) Btr rfl (.inr ⟨_,rfl,rfl⟩) (.inl ⟨rfl,rfl⟩) (by omega) (by omega)) (Au (.string (bs ((s.take s.length).drop 1))) (Arx rfl rfl Z fun b0 a0=>Av (.string (bs ((s.take s.length).drop 1))) (l_v (Dy Btr (p:=(s.take s.length).drop 1) rfl) (l_v (Da rfl rfl) (l_k a0 (Cg rfl (Hn (by omega)) (Al (kk N ?_)))))))))))))))
  refine w_q rfl rfl fun b1 a1=>Au (iV 0) (Ary rfl rfl a1 fun b2 b3 a2 a3=>Av (.string (bs ((s.take s.length).drop 1))) (Arv (Amd (s:=bs ((s.take s.length).drop 1)) Btr Btu Bud rfl (by rw[Mw];omega) fun L G bt cb bv T V=>?_)))
  refine Alh T V (by rw[Mw];omega) fun P ar k=>?_
  replace k:Val P (.slice (some ⟨L,0,none⟩) (bs ((s.take s.length).drop 1)).size G) (((s.take s.length).drop 1)):=k
  have bz:=Bxo k
  refine l_v (Ci (el:=5) Btu rfl k) (Av (iV 0) (l_k a3 (Ao (Cc (fun mm ee dd ρ' σ'=>∃(i:Nat) (n:Nat),((((s.take s.length).drop 1)).length-i)=mm∧[]=dd∧P=ρ'∧σ=σ'∧ee 5=(.string (bs s))∧ee 47=(.slice (some ⟨L,0,none⟩) (bs ((s.take s.length).drop 1)).size G)∧ee 48=(iV (((((s.take s.length).drop 1)).length:Nat):Int))∧ee 6=iV n∧ee 49=iV i∧(i≤(((s.take s.length).drop 1)).length)∧(n=Aij ((((s.take s.length).drop 1)).take i))∧True) (m:=_) ⟨0,0,rfl,rfl,rfl,rfl,rfl,rfl,rfl,rfl,rfl,Gn _,rfl,trivial⟩ ?_))))
  rintro m17 e17 _ _ _ ⟨i,n,rfl,rfl,rfl,rfl,h17_5,h17_47,h17_48,h17_6,h17_49,p17_0,p17_1,_⟩
  have c2:n<1000000000:=by rw[p17_1];have:=Aqk (n:=9) (d:=(((s.take s.length).drop 1)).take i) (Rh.2 fun c hc=>Rh.1 f c (List.mem_of_mem_take hc)) (by rw[lZ6];omega);omega
  refine w_q rfl rfl fun b4 a4=>l_v (Da h17_49 h17_48) (Asa a4 fun b5 a5=>Bf (t:=decide ((i:Int)<(((((s.take s.length).drop 1)).length:Nat):Int))) rfl (fun x=>?_) (fun x=>?_))
  ·have av:=lZ1 x
   refine Al (kk a5 ?_)
   refine Ai fun b6 a6=>Ao (w_q rfl rfl fun b7 a7=>?_)
   obtain⟨b,B⟩:=Ed (xs:=(s.take s.length).drop 1) (i:=i) (by omega)
   have c5:=Azg (Bee f B)
   refine Arw (Ch i Btu ty5 h17_47 k (q:=(i:Int)) h17_49 rfl B) fun cd ax=>l_v (Aaf ty5 rfl ax) (Au (.int .u8 (b.toNat:Int)) (Arx rfl rfl a7 fun b8 a8=>Av (.int .u8 (b.toNat:Int)) (l_v (Ou rfl rfl (z:=(((b.toNat-48):Nat):Int)) ((Anq (by omega) (by omega)).trans (by omega))) (Au (.int .u8 (((b.toNat-48):Nat):Int)) (Ary rfl rfl a8 fun ba bb a9 aa=>Av (.int .u8 (((b.toNat-48):Nat):Int)) (l_v (Gl rfl rfl) (l_k aa (Cg rfl (Hn (by omega)) (Al (kk a9 ?_))))))))))
   refine Ag rfl rfl (l_v (Ah (v:=iV n) h17_6) (l_v (Wq rfl rfl (z:=(((n*10):Nat):Int)) wrE) (Av (.int .u8 (((b.toNat-48):Nat):Int)) (l_v (Acf (p:=(((b.toNat-48):Nat):Int)) (z:=(((b.toNat-48):Nat):Int)) Bud Bty rfl wrR) (l_v (Cw ((((n*10)+(b.toNat-48)):Nat):Int)) (Au (iV ((((n*10)+(b.toNat-48)):Nat):Int)) (l_k a6 (Ag rfl rfl (l_v (Br h17_49 rfl (z:=(((i+1):Nat):Int)) wrE) (Av (iV ((i+1):Nat)) (Ac ?_)))))))))))
   refine⟨_,?_,(i+1),((n*10)+(b.toNat-48)),rfl,rfl,rfl,rfl,h17_5,h17_47,h17_48,rfl,rfl,(by omega),(by rw[Atb B,p17_1];omega),trivial⟩
   omega
  have av:=lZ0 x
  refine Bx (kk a2 ?_)
  refine Asb rfl rfl fun bc bd ab ac=>l_v (Ah (v:=.string (bs s)) h17_5) (l_v (Gp (p:=s) 0 g Btr rfl (q:=0) rfl rfl j) (l_v (Ek rfl rfl) (l_k ac (Co rfl a (Ag rfl rfl (l_v (Ah (v:=iV n) h17_6) (l_v (Bsy (p:=(n:Int)) (z:=-(n:Int)) rfl (Bo (by omega) (by omega) (by omega))) (Au (iV (-(n:Int))) (Arx rfl rfl ab fun be ad=>Av (iV (-(n:Int))) (Au (iV (-(n:Int))) (Au .nilIface (l_k ad (Aq (K ⟨ar,rfl,Eq.trans (Mp (r:=2) (r':=3) (rs:=[]) (v:=iV (-(n:Int))) (v':=.nilIface) (vs:=[]) ⟨rfl,rfl,trivial⟩) ?_⟩))))))))))))))
  have hi:i=(((s.take s.length).drop 1)).length:=by omega
  rw[Rq,hm,hD]
  have:=p17_1
  rw[hi,Sr]at this
  rw[this];rfl
 have hm:Rm s=false:=by
  rcases D with⟨h,_⟩|⟨_,_,h⟩
  ·exact absurd h (Asy (n:=45) (Jq a))
  ·exact h
 have hD:Oe s=s:=by unfold Oe;rw[hm];rfl
 have c1:48≤g.toNat:=by
  rcases D with⟨h,_⟩|⟨h,_,_⟩
  ·exact absurd h (Asy (n:=45) (Jq a))
  ·exact h
 have f:=f;rw[hD]at f;have E:=I;have F:=J;rw[hD]at E F
 have q9:=Jq a
 refine l_M (.string (bs s)) (gY rfl a) rfl (Aa (gY rfl a) (Gp (p:=s) 0 g Btr rfl (q:=0) rfl rfl j) (Aa (gY rfl a) (Ek rfl rfl) (l_v (Bn rfl a (v:=.bool ((g.toNat:Int)==43)) rfl) (l_k O (Cg rfl (beq_eq_false_iff_ne.2 (by omega)) (Al (kk N ?_)))))))
 refine w_q rfl rfl fun bf ae=>Au (iV 0) (Ary rfl rfl ae fun bg bh af ag=>Av (.string (bs s)) (Arv (Amd (s:=bs s) Btr Btu Bud rfl (by rw[Mw];omega) fun M H bu cc bx U W=>?_)))
 refine Alh U W (by rw[Mw];omega) fun R au u=>?_
 replace u:Val R (.slice (some ⟨M,0,none⟩) (bs s).size H) s:=u
 have c0:=Bxo u
 refine l_v (Ci (el:=5) Btu rfl u) (Av (iV 0) (l_k ag (Ao (Cc (fun mm ee dd ρ' σ'=>∃(i:Nat) (n:Nat),(s.length-i)=mm∧[]=dd∧R=ρ'∧σ=σ'∧ee 5=(.string (bs s))∧ee 47=(.slice (some ⟨M,0,none⟩) (bs s).size H)∧ee 48=(iV (s.length:Int))∧ee 6=iV n∧ee 49=iV i∧(i≤s.length)∧(n=Aij (s.take i))∧True) (m:=_) ⟨0,0,rfl,rfl,rfl,rfl,rfl,rfl,rfl,rfl,rfl,Gn _,rfl,trivial⟩ ?_))))
 rintro m39 e39 _ _ _ ⟨i,n,rfl,rfl,rfl,rfl,h39_5,h39_47,h39_48,h39_6,h39_49,p39_0,p39_1,_⟩
 have c3:n<1000000000:=by rw[p39_1];have:=Aqk (n:=9) (d:=s.take i) (Rh.2 fun c hc=>Rh.1 f c (List.mem_of_mem_take hc)) (by rw[lZ6];omega);omega
 refine w_q rfl rfl fun bi ah=>l_v (Da h39_49 h39_48) (Asa ah fun bj ai=>Bf (t:=decide ((i:Int)<(s.length:Int))) rfl (fun y=>?_) (fun y=>?_))
 ·have aw:=lZ1 y
  refine Al (kk ai ?_)
  refine Ai fun bk aj=>Ao (w_q rfl rfl fun bl ak=>?_)
  obtain⟨e,C⟩:=Ed (xs:=s) (i:=i) (by omega)
  have c6:=Azg (Bee f C)
  refine Arw (Ch i Btu ty5 h39_47 u (q:=(i:Int)) h39_49 rfl C) fun ce ay=>l_v (Aaf ty5 rfl ay) (Au (.int .u8 (e.toNat:Int)) (Arx rfl rfl ak fun bm al=>Av (.int .u8 (e.toNat:Int)) (l_v (Ou rfl rfl (z:=(((e.toNat-48):Nat):Int)) ((Anq (by omega) (by omega)).trans (by omega))) (Au (.int .u8 (((e.toNat-48):Nat):Int)) (Ary rfl rfl al fun bn bo am an=>Av (.int .u8 (((e.toNat-48):Nat):Int)) (l_v (Gl rfl rfl) (l_k an (Cg rfl (Hn (by omega)) (Al (kk am ?_))))))))))
  refine Ag rfl rfl (l_v (Ah (v:=iV n) h39_6) (l_v (Wq rfl rfl (z:=(((n*10):Nat):Int)) wrE) (Av (.int .u8 (((e.toNat-48):Nat):Int)) (l_v (Acf (p:=(((e.toNat-48):Nat):Int)) (z:=(((e.toNat-48):Nat):Int)) Bud Bty rfl wrR) (l_v (Cw ((((n*10)+(e.toNat-48)):Nat):Int)) (Au (iV ((((n*10)+(e.toNat-48)):Nat):Int)) (l_k aj (Ag rfl rfl (l_v (Br h39_49 rfl (z:=(((i+1):Nat):Int)) wrE) (Av (iV ((i+1):Nat)) (Ac ?_)))))))))))
  refine⟨_,?_,(i+1),((n*10)+(e.toNat-48)),rfl,rfl,rfl,rfl,h39_5,h39_47,h39_48,rfl,rfl,(by omega),(by rw[Atb C,p39_1];omega),trivial⟩
  omega
 have aw:=lZ0 y
 refine Bx (kk af ?_)
 refine Asb rfl rfl fun bp bq ao ap=>l_v (Ah (v:=.string (bs s)) h39_5) (l_v (Gp (p:=s) 0 g Btr rfl (q:=0) rfl rfl j) (l_v (Ek rfl rfl) (l_k ap (Cg rfl a (Al (kk ao ?_))))))
 refine w_q rfl rfl fun br aq=>l_v (Ah (v:=iV n) h39_6) (Au (iV n) (Au .nilIface (l_k aq (Aq (K ⟨au,rfl,Eq.trans (Mp (r:=2) (r':=3) (rs:=[]) (v:=iV n) (v':=.nilIface) (vs:=[]) ⟨rfl,rfl,trivial⟩) ?_⟩)))))
 have hi:i=s.length:=by omega
 rw[Rq,hm,hD]
 have:=p39_1
 rw[hi,Sr]at this
 rw[this];rfl
theorem Ben{s:List UInt8}(hz:Ee s=true):CallsH (CX mn X) 162 #[.string (bs s)] ρ σ (fun w ρ' σ'=>Ro.le ρ ρ'∧σ'=σ∧w = .tuple #[iV (Rq s),.nilIface]):=by
 refine Bq 18 [2,3] Tryz.func162 rfl fun Q d t=>w_q rfl rfl fun l f=>Au (iV 0) (Au .nilIface (Arx rfl rfl f fun m g=>Av (.string (bs s)) (Arv (Cm (vs:=[.string (bs s)]) (Bkb (s:=s) hz) Tryz.func177 rfl rfl ⟨rfl,trivial⟩ fun u x y c=>?_))))
 obtain⟨k,a,e⟩:=c
 replace a:=a.symm;subst a e
 refine Av (.tuple #[iV (Rq s),.nilIface]) (l_v (Bp (iV (Rq s))) (l_v (Bp .nilIface) (Au (iV (Rq s)) (Au .nilIface (Ary rfl rfl g fun n p h i=>Av .nilIface (l_v (Afx (w:=.nilIface) (b:=true) Buz (.inl ⟨rfl,rfl⟩) rfl) (l_k i (Cg rfl rfl (Al (kk h ?_))))))))))
 refine w_q rfl rfl fun q j=>Av (iV (Rq s)) (Au (iV (Rq s)) (Au .nilIface (l_k j (Aq (d ⟨k,rfl,Mp (r:=2) (r':=3) (rs:=[]) (v:=iV (Rq s)) (v':=.nilIface) (vs:=[]) ⟨rfl,rfl,trivial⟩⟩)))))
end
section
open Go
theorem Acy{mn:Bool}{X:Frame→List Frame→Ro→Own→Cy→Prop}{ρ:Ro}{σ:Own}{s:List UInt8}(hb:s.length≤60000):CallsH (CX mn X) 146 #[.string (bs s)] ρ σ (fun w ρ' σ'=>Ro.le ρ ρ'∧σ'=σ∧w = .tuple #[iV (Dp s),.bool (Ee s)]):=by
 have hbl:=Beg (s:=s)
 refine Bq 33 [2,3] Bwm rfl fun Q e a2=>w_q rfl rfl fun U E=>Au (iV 0) (Au bF (Arx rfl rfl E fun K2 K=>Av (.string (bs s)) (Arv (Bw (Apy (p:=s) (by omega)) Tryz.func160 ?_))))
 refine Au (.string (bs (Fk s))) (Ary rfl rfl K fun K3 K4 y j=>Av (.string (bs (Fk s))) (l_v (Dy Btr (p:=Fk s) rfl) (Arv (Bw Jl Bvv ?_))))
 refine l_v (Iy rfl) (Av (.bool (!(inR ((((Fk s)).length:Nat):Int) 1 9))) (Cn (!(inR ((((Fk s)).length:Nat):Int) 1 9)) (fun c=>?_) (fun c=>?_)))
 ·have m:=not_eq_t c
  have hz:Ee s=false:=Bqb (by have:=m;unfold inR at this;simp at this;omega)
  have q6:=Vw.1 m
  refine Ap (gN rfl c) (Ap (gN rfl c) (Ap (gN rfl c) (l_v (Bt rfl c (v:=bT) rfl) (Av bT (Ap (gN rfl rfl) (Ap (gN rfl rfl) (Ap (gN rfl rfl) (Ap (gN rfl rfl) (Ap (Jf rfl rfl rfl) (Ap (Jf rfl rfl rfl) (Ap (gN rfl rfl) (l_v (Bt rfl rfl (v:=bT) rfl) (l_k j (Co rfl rfl (w_q rfl rfl fun K7 M=>Au (iV 0) (Au bF (l_k M (Aq (e ⟨Bxm,rfl,Eq.trans (Mp (r:=2) (r':=3) (rs:=[]) (v:=iV 0) (v':=bF) (vs:=[]) ⟨rfl,rfl,trivial⟩) (by rw[Axo hz,hz])⟩)))))))))))))))))))
 have u:=not_eq_f c
 have h:1≤(Fk s).length∧(Fk s).length≤9:=by have:=u;unfold inR at this;simp at this;omega
 have q8:=Fz.1 u
 refine l_M (.string (bs (Fk s))) (gY rfl c) rfl (Ae (gY rfl c) (Bw (Bor (p:=Fk s) (by omega)) Tryz.func161 ?_))
 refine Aa (gY rfl c) (Aps (p:=Agt (Fk s)) (q:=([]:List UInt8)) rfl rfl) (l_v (Bn rfl c (v:=.bool ((Agt (Fk s)) != ([]:List UInt8))) rfl) (Av (.bool ((Agt (Fk s)) != ([]:List UInt8))) (Cn ((Agt (Fk s)) != ([]:List UInt8)) (fun a=>?_) (fun a=>?_))))
 ·have hz:Ee s=false:=Bqc (by have:=a;rw[Avj]at this;simpa using this)
  have T:=Ls a
  refine Ap (gN rfl a) (Ap (gN rfl a) (Ap (gN rfl a) (Ap (gN rfl a) (Ap (Jf rfl rfl rfl) (Ap (Jf rfl rfl rfl) (Ap (gN rfl a) (l_v (Bt rfl a (v:=bT) rfl) (l_k j (Co rfl rfl (w_q rfl rfl fun V F=>Au (iV 0) (Au bF (l_k F (Aq (e ⟨Bxm,rfl,Eq.trans (Mp (r:=2) (r':=3) (rs:=[]) (v:=iV 0) (v':=bF) (vs:=[]) ⟨rfl,rfl,trivial⟩) (by rw[Axo hz,hz])⟩))))))))))))))
 have x:(Fk s).all Iq=true:=by have:=a;rw[Avj]at this;simpa using this
 have T:=Jh a
 refine l_M (.string (bs (Fk s))) (gY rfl a) rfl ?_
 obtain⟨f,g⟩:=Vr (p:=Fk s) (i:=0) (by omega)
 have a3:=f.toNat_lt
 refine Aa (gY rfl a) (Gp (p:=Fk s) 0 f Btr rfl (q:=0) rfl rfl g) (Aa (gY rfl a) (Ek rfl rfl) (l_M (.bool ((f.toNat:Int)==48)) (gY rfl a) rfl (Cn ((f.toNat:Int)==48) (fun b=>?_) (fun b=>?_))))
 ·have P:=Jr b
  refine l_M (.string (bs s)) (gY rfl b) rfl (Aa (gY rfl b) (Aps (p:=s) (q:=([48]:List UInt8)) rfl rfl) (Aa (gY rfl a) (Bt rfl b (v:=.bool (s != ([48]:List UInt8))) rfl) (l_v (Bn rfl a (v:=.bool (s != ([48]:List UInt8))) rfl) (l_k j (Bf (t:=s != ([48]:List UInt8)) rfl (fun d=>?_) (fun d=>?_))))))
  ·have hz:Ee s=false:=Bqd g (Bev (n:=48) (Jr b)) (by simpa using d)
   have R:=Ls d
   refine w_q rfl rfl fun W G=>Au (iV 0) (Au bF (l_k G (Aq (e ⟨Bxm,rfl,Eq.trans (Mp (r:=2) (r':=3) (rs:=[]) (v:=iV 0) (v':=bF) (vs:=[]) ⟨rfl,rfl,trivial⟩) (by rw[Axo hz,hz])⟩))))
  have hz:Ee s=true:=Bny h.1 h.2 x g (.inr (by simpa using d))
  have R:=Jh d
  refine Al (kk y ?_)
  refine w_q rfl rfl fun Y H=>Av (.string (bs s)) (Arv (Cm (vs:=[.string (bs s)]) (Ben (s:=s) hz) Tryz.func162 rfl rfl ⟨rfl,trivial⟩ fun a4 a6 a8 z=>?_))
  obtain⟨N,k,C⟩:=z
  replace k:=k.symm;subst k C
  refine Av (.tuple #[iV (Rq s),.nilIface]) (l_v (Bp (iV (Rq s))) (l_v (Bp .nilIface) (Au (iV (Rq s)) (Au .nilIface (Arx rfl rfl H fun Z I=>Av (iV (Rq s)) (Au (iV (Rq s)) (Au bT (l_k I (Aq (e ⟨N,rfl,Eq.trans (Mp (r:=2) (r':=3) (rs:=[]) (v:=iV (Rq s)) (v':=bT) (vs:=[]) ⟨rfl,rfl,trivial⟩) (by rw[Axp hz,hz])⟩))))))))))
 have hz:Ee s=true:=Bny h.1 h.2 x g (.inl (Asy (n:=48) (Jq b)))
 have P:=Jq b
 refine Ap (gN rfl b) (Ap (gN rfl b) (Aa (gY rfl a) (Bn rfl b (v:=bF) rfl) (l_v (Bn rfl a (v:=bF) rfl) (l_k j (Cg rfl rfl (Al (kk y ?_)))))))
 refine w_q rfl rfl fun a0 J=>Av (.string (bs s)) (Arv (Cm (vs:=[.string (bs s)]) (Ben (s:=s) hz) Tryz.func162 rfl rfl ⟨rfl,trivial⟩ fun a5 a7 a9 B=>?_))
 obtain⟨O,l,D⟩:=B
 replace l:=l.symm;subst l D
 refine Av (.tuple #[iV (Rq s),.nilIface]) (l_v (Bp (iV (Rq s))) (l_v (Bp .nilIface) (Au (iV (Rq s)) (Au .nilIface (Arx rfl rfl J fun a1 L=>Av (iV (Rq s)) (Au (iV (Rq s)) (Au bT (l_k L (Aq (e ⟨O,rfl,Eq.trans (Mp (r:=2) (r':=3) (rs:=[]) (v:=iV (Rq s)) (v':=bT) (vs:=[]) ⟨rfl,rfl,trivial⟩) (by rw[Axp hz,hz])⟩))))))))))
end
section
open Go
/-- A loop at the beginning of a round. -/
def Beb(C:Ctx)(b:FB)(n:Nat)(c:Code)(Q:Hu)(e:Env)(ds:List Deferred)(ρ:Ro)(σ:Own):Prop :=
 ∀tm k cs,EnvOf n tm e→GoesH C (fun fr cs' ρ' σ'=>cs'=cs∧∃ex tm' e' ds' todo,EnvOf n tm' e'∧Q ex e' ds' ρ' σ'∧Pl ex k todo∧fr=Fr b tm' ds' todo) (Fr b tm ds (.code c :: .inLoop c::k)) cs ρ σ
section
variable{C:Ctx}{b:FB}{n:Nat}{Q:Hu}{e:Env}{ds:List Deferred}{ρ:Ro}{σ:Own}{c:Code}
theorem Wl(h:Beb C b n c Q e ds ρ σ):WpC C b n (.loop c) Q e ds ρ σ:=fun tm k cs ht =>
 Eh (fr':=Fr b tm ds (.code c :: .inLoop c::k)) (cs':=cs) (fun W=>by simp[Conc.G,stepG,stepG.exec,Fr]) (h tm k cs ht)
theorem Im(h:WpC C b n c (Zo (fun e ds ρ σ=>Beb C b n c Q e ds ρ σ) Q) e ds ρ σ):Beb C b n c Q e ds ρ σ:=by
 intro tm k cs ht
 refine(h tm (.inLoop c::k) cs ht).bind ?_
 rintro _ _ ρ' σ' ⟨rfl,ex,tm',e',ds',todo,h1,h2,h3,rfl⟩
 cases ex with
 | normal =>
  cases h3
  exact Eh (fr':=Fr b tm' ds' (.code c :: .inLoop c::k)) (fun W=>by simp[Conc.G,stepG,stepG.exec,Fr]) (h2 tm' k _ h1)
 | exit id=>exact .stop ⟨rfl,.exit id,tm',e',ds',todo,h1,h2,He (by simp) (fun _=>rfl) h3,rfl⟩
 | ret=>exact .stop ⟨rfl,.ret,tm',e',ds',todo,h1,h2,He (by simp) (fun _=>rfl) h3,rfl⟩
end
def m2(p:List UInt8)(j:Nat):Bool:=p[j]?==some 46&&p[j+1]?==some 46
def Ha(p:List UInt8):Int:=match Cl (p.length-1) (m2 p) with|some i=>(i:Int)|none=>-1
theorem Arc{p:List UInt8}{j:Nat}:m2 p j=true↔p[j]?=some 46∧p[j+1]?=some 46:=by unfold m2;simp
theorem Bsi{p:List UInt8}{j:Nat}{c:UInt8}(h:p[j]?=some c)(hc:c≠46):m2 p j=false:=by unfold m2;rw[h];simp[hc]
theorem Bth{p:List UInt8}{j:Nat}{c:UInt8}(h:p[j+1]?=some c)(hc:c≠46):m2 p j=false:=by unfold m2;rw[h];simp[hc]
theorem Bhg{p:List UInt8}{j:Nat}(h:p.length≤j+1):m2 p j=false:=by unfold m2;rw[Vy (by omega:p.length≤j+1)];simp
theorem Vv{p:List UInt8}{i:Nat}(h:∀j,j<i→m2 p j=false)(hm:m2 p i=true):Ha p=(i:Int):=by
 have hi:i<p.length-1:=by
  rcases Rd i (p.length-1) with hl|hl
  ·exact hl
  ·rw[Bhg (by omega)]at hm;cases hm
 unfold Ha;rw[Fh h hi hm]
theorem Te{p:List UInt8}(h:∀j,j<p.length-1→m2 p j=false):Ha p = -1:=by unfold Ha;rw[Ep h]
theorem Zs{p:List UInt8}:(∃i:Nat,Ha p=(i:Int)∧i+1<p.length∧m2 p i=true∧∀j,j<i→m2 p j=false)∨(Ha p = -1∧∀j,m2 p j=false):=by
 unfold Ha
 rcases Ft (n:=p.length-1) (p:=m2 p) with⟨i,hi,hp,hj,he⟩|⟨a,he⟩
 ·exact .inl ⟨i,by rw[he],by omega,hp,hj⟩
 ·refine .inr ⟨by rw[he],fun j=>?_⟩
  rcases Rd j (p.length-1) with hl|hl
  ·exact a j hl
  ·exact Bhg (by omega)
theorem Ahi{p:List UInt8}:-1≤Ha p∧Ha p≤p.length:=by
 rcases Zs (p:=p) with⟨i,a,b,_⟩|⟨a,_⟩<;>omega
theorem Arb{p:List UInt8}{k j:Nat}:m2 (p.drop k) j=m2 p (k+j):=by unfold m2;rw[Xy,Xy,Nat.add_assoc]
/-- From a place on,where there is none before it. -/
theorem Zr{p:List UInt8}{k:Nat}(h:∀j,j<k→m2 p j=false):(∃i:Nat,Ha (p.drop k)=(i:Int)∧Ha p=(i:Int)+(k:Int))∨(Ha (p.drop k) = -1∧Ha p = -1):=by
 rcases Zs (p:=p.drop k) with⟨i,a,b,c,d⟩|⟨a,b⟩
 ·refine .inl ⟨i,a,?_⟩
  rw[Arb]at c
  rw[Vv (i:=k+i) (fun j hj=>?_) c]
  ·omega
  ·rcases Rd j k with hl|hl
   ·exact h j hl
   ·have:=d (j-k) (by omega)
    rw[Arb,show k+(j-k)=j by omega]at this;exact this
 ·refine .inr ⟨a,Te fun j _=>?_⟩
  rcases Rd j k with hl|hl
  ·exact h j hl
  ·have:=b (j-k)
   rw[Arb,show k+(j-k)=j by omega]at this;exact this
theorem sl2{p:List UInt8}{i:Nat}(h:p[i]?=some 46)(h':p[i+1]?=some 46):(p.take (i+2)).drop i=[46,46]:=by
 have a:=Nj h
 have b:=Nj h'
 have hl:(p.take i).length=i:=by rw[lZ6];have:=(lZ8.1 h).1;omega
 rw[b,a,lZ9,Bgf (by omega),Azn (by omega)]
 rfl
theorem Bei{a b:List UInt8}:(bs a==bs b)=decide (a=b):=by
 show (a.toArray==b.toArray)=_
 by_cases h:a=b
 ·subst h;simp
 ·simp[h]
def gno(n:Nat):Nat:=n
theorem Bfm{p:List UInt8}:((List.range ((bs p).size+1-(bs [46,46]).size)).find? fun i=>(bs p).extract i (i+(bs [46,46]).size)==bs [46,46])=Cl (p.length-1) (m2 p):=by
 have a:(bs ([46,46]:List UInt8)).size=2:=rfl
 rw[a,Mw,show p.length+1-2=p.length-1 by omega]
 refine Yj fun i hi=>?_
 rw[Aaw]
 cases hm:m2 p i with
 | true =>
  rw[Arc]at hm
  rw[sl2 hm.1 hm.2,Bei];rfl
 | false =>
  rw[Bei]
  refine Hn fun hl=>?_
  have b:p[i]?=some 46:=by
   have:=congrArg (·[0]?) hl
   simp only[Xy,Aez]at this
   rw[if_pos (by omega)]at this
   exact this
  have c:p[i+1]?=some 46:=by
   have:=congrArg (·[1]?) hl
   simp only[Xy,Aez]at this
   rw[if_pos (by omega)]at this
   exact this
  rw[Arc.2 ⟨b,c⟩]at hm;cases hm
theorem Atf{ρ:Ro}{σ:Own}{p:List UInt8}{z:Int}{t:TypeId}{fz:Nat×Nat}(hz:ρ 4=some (.cells #[.int .i64 z] t fz))(h2:2≤z)(hb:p.length≤60000):wpS Tryz.prog ρ (Extern.BytealgIndex.index #[.string (bs p),.string (bs ([46,46]:List UInt8))]) σ (fun w σ'=>w = .int .i64 (Ha p)∧σ'=σ):=by
 unfold Extern.BytealgIndex.index
 show wpS Tryz.prog ρ ((Extern.Bytes.bytesOf (.string (bs p))).bind _) σ _
 rw[Ad]
 show wpS Tryz.prog ρ ((Extern.Bytes.bytesOf (.string (bs [46,46]))).bind _) σ _
 rw[Ad]
 have a:∀{Q:Int→Own→Prop},Q z σ→wpS Tryz.prog ρ Extern.BytealgIndex.maxLen σ Q:=fun {Q} hq=>by
  have hgl:Tryz.prog.globals.findIdx? (·.name == "internal/bytealg.MaxLen")=some (gno 4):=by kernel_rfl
  unfold Extern.BytealgIndex.maxLen
  show wpS Tryz.prog ρ ((globalAddr "internal/bytealg.MaxLen").bind _) σ Q
  rw[Ad]
  unfold globalAddr
  show wpS Tryz.prog ρ (match Tryz.prog.globals.findIdx? (·.name == "internal/bytealg.MaxLen") with|some g=>(pure (⟨g,0,none⟩:Addr))|none=>_) σ _
  rw[hgl]
  show wpS Tryz.prog ρ ((load ⟨gno 4,0,none⟩).bind _) σ Q
  rw[Ad]
  exact⟨rfl,rfl,_,_,.inl hz,rfl,hq⟩
 show wpS Tryz.prog ρ (Extern.BytealgIndex.maxLen.bind _) σ _
 rw[Ad]
 refine a ?_
 refine Zc (c:=(decide ((bs ([46,46]:List UInt8)).size<2)||decide (((bs ([46,46]:List UInt8)).size:Int)>z))=true) ?_ ?_
 ·rw[show (bs ([46,46]:List UInt8)).size=2 from rfl,Hn (by omega),Hn (by omega)];simp
 refine Zc (c:=(bs p).size≥2^32-15) (by rw[Mw];omega) ?_
 show wpS Tryz.prog ρ (match (List.range ((bs p).size+1-(bs [46,46]).size)).find? fun i=>(bs p).extract i (i+(bs [46,46]).size)==bs [46,46] with|some i=>pure (goInt i)|none=>pure (goInt (-1))) σ _
 rw[Bfm]
 unfold Ha
 cases Cl (p.length-1) (m2 p)<;>exact⟨rfl,rfl⟩
def hw(a b:Nat):Int:=((a:Int)*16777619+(b:Int))%4294967296
theorem Bjj(z:Int):IntKind.u32.wrap z=z%4294967296:=by
 show z%_=_
 simp only[IntKind.bits];rfl
theorem Ajd{a b:Nat}:IntKind.u32.wrap (IntKind.u32.wrap (IntKind.u32.wrap (IntKind.u32.wrap (0*16777619)+(a:Int))*16777619)+(b:Int))=hw a b:=by
 simp only[Bjj,hw];omega
theorem Zq{a b c:Nat}:IntKind.u32.wrap (IntKind.u32.wrap (IntKind.u32.wrap (hw a b*16777619)+(c:Int))-IntKind.u32.wrap (IntKind.u32.wrap (16777619*16777619)*(a:Int)))=hw b c:=by
 simp only[Bjj,hw]
 rw[show (16777619:Int)*16777619%4294967296=637696617 by decide]
 omega
theorem Bfz{p:List UInt8}{j:Nat}{a b:UInt8}(ha:p[j]?=some a)(hb:p[j+1]?=some b)(h:¬hw a.toNat b.toNat=hw 46 46):m2 p j=false:=by
 cases hm:m2 p j with
 | false=>rfl
 | true =>
  rw[Arc]at hm
  rw[ha,hb]at hm
  obtain⟨c,d⟩:=hm
  cases c;cases d
  exact absurd rfl h
theorem Bii{p:List UInt8}{j:Nat}(h:(((p.take (j+2)).drop j)==([46,46]:List UInt8))=false):m2 p j=false:=by
 cases hm:m2 p j with
 | false=>rfl
 | true =>
  rw[Arc]at hm
  rw[sl2 hm.1 hm.2]at h;cases h
theorem Bqr{p:List UInt8}{j:Nat}(h:(((p.take (j+2)).drop j)==([46,46]:List UInt8))=true):m2 p j=true:=by
 have hl:=eq_of_beq h
 have a:=congrArg (·[0]?) hl
 have b:=congrArg (·[1]?) hl
 simp only[Xy,Aez]at a b
 rw[if_pos (by omega)]at a b
 exact Arc.2 ⟨a,b⟩
theorem Xm{p:Nat→Prop}{i:Nat}(h:∀j,j<i→p j)(hi:p i):∀j,j<i+1→p j:=fun j hj=>by
 rcases Rd j i with hl|hl
 ·exact h j hl
 ·rw[show j=i by omega];exact hi
theorem Blq{c:UInt8}{p:List UInt8}(h:decide (Ps c p<0)=true):∀x∈p,x≠c:=by
 replace h:=lZ1 h
 rcases Tf (c:=c) (p:=p) with⟨i,b,_⟩|⟨_,a⟩
 ·omega
 ·exact a
theorem Bgb{c:UInt8}{p:List UInt8}(h:decide (Ps c p<0)=false):∃m:Nat,Ps c p=(m:Int)∧m<p.length∧p[m]?=some c∧∀j,j<m→p[j]?≠some c:=by
 replace h:=lZ0 h
 rcases Tf (c:=c) (p:=p) with h1|⟨h1,_⟩
 ·exact h1
 ·omega
theorem Brq{a b:Int}(h:(a != b)=false):a=b:=by simpa using h
theorem Brp{a b:Int}(h:(a != b)=true):¬a=b:=by simpa using h
theorem Ayn{p:List UInt8}{i t j:Nat}(h:i+1+j<t):((p.take t).drop (i+1))[j]?=p[i+1+j]?:=by
 rw[Xy,Aez,if_pos h]
theorem Bps{p:List UInt8}{i m t:Nat}{c:UInt8}(h:∀j,j<i→m2 p j=false)(hc:p[i]?=some c)(hne:c≠46)(hm:((p.take t).drop (i+1))[m]?=some 46)(hj:∀j,j<m→((p.take t).drop (i+1))[j]?≠some 46):p[i+(m+1)]?=some 46∧∀j,j<i+(m+1)→m2 p j=false:=by
 have hlt:=(lZ8.1 hm).1
 rw[lZ4,lZ6]at hlt
 rw[Ayn (by omega)]at hm
 refine⟨by rw[show i+(m+1)=i+1+m by omega];exact hm,fun j hj'=>?_⟩
 rcases Rd j i with hl|hl
 ·exact h j hl
 ·rcases Rd i j with hl2|hl2
  ·have a:=hj (j-(i+1)) (by omega)
   rw[Ayn (by omega),show i+1+(j-(i+1))=j by omega]at a
   unfold m2
   cases hx:p[j]?==some 46 with
   | false=>rfl
   | true=>exact absurd (by simpa using hx) a
  ·rw[show j=i by omega];exact Bsi hc hne
theorem Bfo{p:List UInt8}{i t:Nat}{c:UInt8}(h:∀j,j<i→m2 p j=false)(hc:p[i]?=some c)(hne:c≠46)(hno:∀x∈(p.take t).drop (i+1),x≠46)(ht:p.length-1≤t:=by omega):∀j,j<p.length-1→m2 p j=false:=fun j hj=>by
 rcases Rd j i with hl|hl
 ·exact h j hl
 ·rcases Rd i j with hl2|hl2
  ·unfold m2
   cases hx:p[j]?==some 46 with
   | false=>rfl
   | true =>
    have hx':p[j]?=some 46:=by simpa using hx
    refine absurd rfl (hno 46 (Hd (i:=j-(i+1)) ?_))
    rw[Ayn (by omega),show i+1+(j-(i+1))=j by omega];exact hx'
  ·rw[show j=i by omega];exact Bsi hc hne
theorem Bqq{p:List UInt8}(h:p.length≤2)(hne:([46,46]:List UInt8)≠p)(j:Nat):m2 p j=false:=by
 cases hm:m2 p j with
 | false=>rfl
 | true =>
  rw[Arc]at hm
  have c:=(lZ8.1 hm.2).1
  have hj:j=0:=by omega
  subst hj
  match p,h,hm with
  | [a,b],_,hm =>
   simp at hm
   exact absurd (by rw[hm.1,hm.2]) hne
theorem Bro{a b:List UInt8}(h:(a==b)=false):a≠b:=by simpa using h
theorem Ahf{i:Nat}{c:UInt8}(h:([46,46]:List UInt8)[i]?=some c):c=46:=by
 have hi:i<2:=(lZ8.1 h).1
 have:i=0∨i=1:=by omega
 rcases this with rfl|rfl<;>simpa using h.symm
end
section
open Go
variable{mn:Bool}{X:Frame→List Frame→Ro→Own→Cy→Prop}{ρ:Ro}{σ:Own}
theorem Bko  :CallsH (CX mn X) 201 #[.string (bs ([46,46]:List UInt8))] ρ σ (rP ρ σ (.tuple #[.int .u32 (hw 46 46),.int .u32 (IntKind.u32.wrap (16777619*16777619))])):=by
 refine Bq 39 [2,3] Tryz.func201 rfl fun Q f ad=>w_q rfl rfl fun P g=>Au (.int .u32 0) (Au (.int .u32 0) (Arx rfl rfl g fun K2 w=>Au (.int .u32 0) (Ary rfl rfl w fun K3 K4 I K=>Au (iV 0) (l_k K (Ao (Wl (Im (Asb rfl rfl fun K5 K6 L M=>Av (iV 0) (Av (.string (bs ([46,46]:List UInt8))) (l_v (Dy Btr (p:=([46,46]:List UInt8)) rfl) (l_v (Da rfl rfl) (l_k M (Co rfl rfl (Al (kk L ?_)))))))))))))))
 refine Ai fun K7 N=>Ao (Ag rfl rfl (Av (.int .u32 0) (l_v (Wq rfl rfl (z:=IntKind.u32.wrap (0*16777619)) rfl) (Av (.string (bs ([46,46]:List UInt8))) (Av (iV 0) ?_)))))
 obtain⟨c,e⟩:=Vr (p:=([46,46]:List UInt8)) (i:=0) (by decide)
 have af:=c.toNat_lt
 obtain rfl:c=46:=Ahf e
 refine l_v (Gp (p:=([46,46]:List UInt8)) 0 (46:UInt8) Btr rfl (q:=0) rfl rfl e) (l_v (Acf (p:=(((46:UInt8).toNat:Nat):Int)) (z:=(((46:UInt8).toNat:Nat):Int)) Bud Buo rfl (Dm (by omega) (by omega))) (l_v (Br rfl rfl (z:=IntKind.u32.wrap ((IntKind.u32.wrap (0*16777619))+(((46:UInt8).toNat:Nat):Int))) rfl) (Au (.int .u32 (IntKind.u32.wrap ((IntKind.u32.wrap (0*16777619))+(((46:UInt8).toNat:Nat):Int)))) (l_k N (Ag rfl rfl (Av (iV 0) (l_v (Cw 1) (Au (iV 1) (Ac ?_)))))))))
 refine Im (Asb rfl rfl fun K9 R O h=>Av (iV 1) (Av (.string (bs ([46,46]:List UInt8))) (l_v (Dy Btr (p:=([46,46]:List UInt8)) rfl) (l_v (Da rfl rfl) (l_k h (Co rfl rfl (Al (kk O ?_))))))))
 refine Ai fun T j=>Ao (Ag rfl rfl (Av (.int .u32 (IntKind.u32.wrap ((IntKind.u32.wrap (0*16777619))+(((46:UInt8).toNat:Nat):Int)))) (l_v (Wq rfl rfl (z:=IntKind.u32.wrap ((IntKind.u32.wrap ((IntKind.u32.wrap (0*16777619))+(((46:UInt8).toNat:Nat):Int)))*16777619)) rfl) (Av (.string (bs ([46,46]:List UInt8))) (Av (iV 1) ?_)))))
 obtain⟨a,d⟩:=Vr (p:=([46,46]:List UInt8)) (i:=1) (by decide)
 have ae:=a.toNat_lt
 obtain rfl:a=46:=Ahf d
 refine l_v (Gp (p:=([46,46]:List UInt8)) 1 (46:UInt8) Btr rfl (q:=1) rfl rfl d) (l_v (Acf (p:=(((46:UInt8).toNat:Nat):Int)) (z:=(((46:UInt8).toNat:Nat):Int)) Bud Buo rfl (Dm (by omega) (by omega))) (l_v (Br rfl rfl (z:=IntKind.u32.wrap ((IntKind.u32.wrap ((IntKind.u32.wrap ((IntKind.u32.wrap (0*16777619))+(((46:UInt8).toNat:Nat):Int)))*16777619))+(((46:UInt8).toNat:Nat):Int))) rfl) (Au (.int .u32 (IntKind.u32.wrap ((IntKind.u32.wrap ((IntKind.u32.wrap ((IntKind.u32.wrap (0*16777619))+(((46:UInt8).toNat:Nat):Int)))*16777619))+(((46:UInt8).toNat:Nat):Int)))) (l_k j (Ag rfl rfl (Av (iV 1) (l_v (Cw 2) (Au (iV 2) (Ac ?_)))))))))
 refine Im (Asb rfl rfl fun U V ag k=>Av (iV 2) (Av (.string (bs ([46,46]:List UInt8))) (l_v (Dy Btr (p:=([46,46]:List UInt8)) rfl) (l_v (Da rfl rfl) (l_k k (Cg rfl rfl (Bx (kk I ?_))))))))
 refine w_q rfl rfl fun W l=>Au (.int .u32 1) (Au (.int .u32 16777619) (Ary rfl rfl l fun Y Z m n=>Av (.string (bs ([46,46]:List UInt8))) (l_v (Dy Btr (p:=([46,46]:List UInt8)) rfl) (Au (iV 2) (l_k n (Ao (Wl (Im (Asb rfl rfl fun a0 a1 t u=>Av (iV 2) (l_v (Gl rfl rfl) (l_k u (Co rfl rfl (Al (kk t ?_))))))))))))))
 refine Ai fun a2 x=>Ao (Asb rfl rfl fun a3 a4 y B=>Av (iV 2) (l_v (Qs (p:=2) (q:=1) rfl rfl (by omega)) (l_v (Dg rfl rfl) (l_k B (Cg rfl rfl (Al (kk y ?_)))))))
 refine Ag rfl rfl (Av (.int .u32 16777619) (Av (.int .u32 16777619) (l_v (Wq rfl rfl (z:=IntKind.u32.wrap (16777619*16777619)) rfl) (Au (.int .u32 (IntKind.u32.wrap (16777619*16777619))) (l_k x (Ag rfl rfl (Av (iV 2) (l_v (Lc (p:=2) (q:=1) rfl rfl rfl (by omega)) (Au (iV 1) (Ac ?_))))))))))
 refine Im (Asb rfl rfl fun a5 a6 C D=>Av (iV 1) (l_v (Gl rfl rfl) (l_k D (Co rfl rfl (Al (kk C ?_))))))
 refine Ai fun a7 E=>Ao (Asb rfl rfl fun a8 a9 F G=>Av (iV 1) (l_v (Qs (p:=1) (q:=1) rfl rfl (by omega)) (l_v (Dg rfl rfl) (l_k G (Co rfl rfl (Ag rfl rfl (Av (.int .u32 1) (Av (.int .u32 (IntKind.u32.wrap (16777619*16777619))) (l_v (Wq rfl rfl (z:=IntKind.u32.wrap (1*(IntKind.u32.wrap (16777619*16777619)))) rfl) (Au (.int .u32 (IntKind.u32.wrap (1*(IntKind.u32.wrap (16777619*16777619))))) (l_k F (Ag rfl rfl (Av (.int .u32 (IntKind.u32.wrap (16777619*16777619))) (Av (.int .u32 (IntKind.u32.wrap (16777619*16777619))) (l_v (Wq rfl rfl (z:=IntKind.u32.wrap ((IntKind.u32.wrap (16777619*16777619))*(IntKind.u32.wrap (16777619*16777619)))) rfl) (Au (.int .u32 (IntKind.u32.wrap ((IntKind.u32.wrap (16777619*16777619))*(IntKind.u32.wrap (16777619*16777619))))) (l_k E (Ag rfl rfl (Av (iV 1) (l_v (Lc (p:=1) (q:=1) rfl rfl rfl (by omega)) (Au (iV 0) (Ac ?_))))))))))))))))))))))
 refine Im (Asb rfl rfl fun aa ab ah H=>Av (iV 0) (l_v (Gl rfl rfl) (l_k H (Cg rfl rfl (Bx (kk m ?_))))))
 refine w_q rfl rfl fun ac J=>Av (.int .u32 (IntKind.u32.wrap ((IntKind.u32.wrap ((IntKind.u32.wrap ((IntKind.u32.wrap (0*16777619))+(((46:UInt8).toNat:Nat):Int)))*16777619))+(((46:UInt8).toNat:Nat):Int)))) (Av (.int .u32 (IntKind.u32.wrap (1*(IntKind.u32.wrap (16777619*16777619))))) (Au (.int .u32 (IntKind.u32.wrap ((IntKind.u32.wrap ((IntKind.u32.wrap ((IntKind.u32.wrap (0*16777619))+(((46:UInt8).toNat:Nat):Int)))*16777619))+(((46:UInt8).toNat:Nat):Int)))) (Au (.int .u32 (IntKind.u32.wrap (1*(IntKind.u32.wrap (16777619*16777619))))) (l_k J (Aq (f ⟨rfl,rfl,Eq.trans (b:=.tuple #[.int .u32 (IntKind.u32.wrap ((IntKind.u32.wrap ((IntKind.u32.wrap ((IntKind.u32.wrap (0*16777619))+(((46:UInt8).toNat:Nat):Int)))*16777619))+(((46:UInt8).toNat:Nat):Int))),.int .u32 (IntKind.u32.wrap (1*(IntKind.u32.wrap (16777619*16777619))))]) (Mp (r:=2) (r':=3) (rs:=[]) (v:=.int .u32 (IntKind.u32.wrap ((IntKind.u32.wrap ((IntKind.u32.wrap ((IntKind.u32.wrap (0*16777619))+(((46:UInt8).toNat:Nat):Int)))*16777619))+(((46:UInt8).toNat:Nat):Int)))) (v':=.int .u32 (IntKind.u32.wrap (1*(IntKind.u32.wrap (16777619*16777619))))) (vs:=[]) ⟨rfl,rfl,trivial⟩) ?_⟩))))))
 rfl
theorem Ber{p:List UInt8}(hl:2≤p.length)(hb:p.length≤60000):CallsH (CX mn X) 195 #[.string (bs p),.string (bs ([46,46]:List UInt8))] ρ σ (rP ρ σ (iV (Ha p))):=by
 refine Bq 81 [4] Tryz.func195 rfl fun Q B bx=>w_q rfl rfl fun K1 W=>Au (iV 0) (Arx rfl rfl W fun K2 k2=>Av (.string (bs ([46,46]:List UInt8))) (Arv (Bw Bko Tryz.func201 ?_)))
 refine Av (.tuple #[.int .u32 (hw 46 46),.int .u32 (IntKind.u32.wrap (16777619*16777619))]) (l_v (Bp (.int .u32 (hw 46 46))) (l_v (Bp (.int .u32 (IntKind.u32.wrap (16777619*16777619)))) (Au (.int .u32 (hw 46 46)) (Au (.int .u32 (IntKind.u32.wrap (16777619*16777619))) (Arx rfl rfl k2 fun K3 k3=>Av (.string (bs ([46,46]:List UInt8))) (l_v (Dy Btr (p:=([46,46]:List UInt8)) rfl) (Au (iV 2) (Arx rfl rfl k3 fun K4 k4=>Au (.int .u32 0) (Ary rfl rfl k4 fun K5 K6 k5 k6=>Au (iV 0) (l_k k6 (Ao (Wl (Im (Asb rfl rfl fun K7 K8 k7 k8=>Av (iV 0) (Av (iV 2) (l_v (Da rfl rfl) (l_k k8 (Co rfl rfl (Al (kk k7 ?_))))))))))))))))))))
 refine Ai fun K9 k9=>Ao (Ag rfl rfl (Av (.int .u32 0) (l_v (Wq rfl rfl (z:=IntKind.u32.wrap (0*16777619)) rfl) (Av (.string (bs p)) (Av (iV 0) ?_)))))
 obtain⟨g,C⟩:=Vr (p:=p) (i:=0) (by first|omega|(simp only[lZ6];omega))
 have bz:=g.toNat_lt
 refine l_v (Gp (p:=p) 0 g Btr rfl (q:=0) rfl rfl C) (l_v (Acf (p:=(g.toNat:Int)) (z:=(g.toNat:Int)) Bud Buo rfl (Dm (by omega) (by omega))) (l_v (Br rfl rfl (z:=IntKind.u32.wrap ((IntKind.u32.wrap (0*16777619))+(g.toNat:Int))) rfl) (Au (.int .u32 (IntKind.u32.wrap ((IntKind.u32.wrap (0*16777619))+(g.toNat:Int)))) (l_k k9 (Ag rfl rfl (Av (iV 0) (l_v (Cw 1) (Au (iV 1) (Ac ?_)))))))))
 refine Im (Asb rfl rfl fun ax ay Y Z=>Av (iV 1) (Av (iV 2) (l_v (Da rfl rfl) (l_k Z (Co rfl rfl (Al (kk Y ?_)))))))
 refine Ai fun az a0=>Ao (Ag rfl rfl (Av (.int .u32 (IntKind.u32.wrap ((IntKind.u32.wrap (0*16777619))+(g.toNat:Int)))) (l_v (Wq rfl rfl (z:=IntKind.u32.wrap ((IntKind.u32.wrap ((IntKind.u32.wrap (0*16777619))+(g.toNat:Int)))*16777619)) rfl) (Av (.string (bs p)) (Av (iV 1) ?_)))))
 obtain⟨u,D⟩:=Vr (p:=p) (i:=1) (by first|omega|(simp only[lZ6];omega))
 have c0:=u.toNat_lt
 refine l_v (Gp (p:=p) 1 u Btr rfl (q:=1) rfl rfl D) (l_v (Acf (p:=(u.toNat:Int)) (z:=(u.toNat:Int)) Bud Buo rfl (Dm (by omega) (by omega))) (l_v (Br rfl rfl (z:=IntKind.u32.wrap ((IntKind.u32.wrap ((IntKind.u32.wrap ((IntKind.u32.wrap (0*16777619))+(g.toNat:Int)))*16777619))+(u.toNat:Int))) rfl) (Au (.int .u32 (IntKind.u32.wrap ((IntKind.u32.wrap ((IntKind.u32.wrap ((IntKind.u32.wrap (0*16777619))+(g.toNat:Int)))*16777619))+(u.toNat:Int)))) (l_k a0 (Ag rfl rfl (Av (iV 1) (l_v (Cw 2) (Au (iV 2) (Ac ?_)))))))))
 refine Im (Asb rfl rfl fun b0 b1 c5 a1=>Av (iV 2) (Av (iV 2) (l_v (Da rfl rfl) (l_k a1 (Cg rfl rfl (Bx (kk k5 ?_)))))))
 refine Asb rfl rfl fun b2 b3 O P=>l_v (Ah (v:=.int .u32 (hw g.toNat u.toNat)) (congrArg (Value.int .u32) Ajd)) (Av (.int .u32 (hw 46 46)) (l_v (Ek rfl rfl) (Av (.bool ((hw g.toNat u.toNat)==(hw 46 46))) (Cn ((hw g.toNat u.toNat)==(hw 46 46)) (fun f=>?_) (fun f=>?_)))))
 ·have an:=Jr f
  refine l_M (.string (bs p)) (gY rfl f) rfl (l_M (iV 2) (gY rfl f) rfl (Aa (gY rfl f) (Ui (p:=p) (l:=0) (h:=2) Btr rfl (.inl ⟨rfl,rfl⟩) (.inr ⟨_,rfl,rfl⟩) (by first|omega|(simp only[lZ6];omega)) (by first|omega|(simp only[lZ6];omega))) (l_M (.string (bs ([46,46]:List UInt8))) (gY rfl f) rfl (Aa (gY rfl f) (Od (p:=(p.take 2).drop 0) (q:=([46,46]:List UInt8)) rfl rfl) (l_v (Bt rfl f (v:=.bool ((((p.take 2).drop 0))==([46,46]:List UInt8))) rfl) (l_k P (Bf (t:=(((p.take 2).drop 0))==([46,46]:List UInt8)) rfl (fun w=>?_) (fun w=>?_))))))))
  ·have hsl:(((p.take (0+2)).drop 0)==([46,46]:List UInt8))=true:=w
   have e:m2 p 0=true:=Bqr hsl
   have ao:=Jr w
   refine w_q rfl rfl fun b4 a2=>Au (iV 0) (l_k a2 (Aq (B (rT (iV 0) ?_))))
   exact congrArg (Value.int .i64) (Vv (i:=0) (fun j hj=>absurd hj (by omega)) e).symm
  have hsl:(((p.take (0+2)).drop 0)==([46,46]:List UInt8))=false:=w
  have e:m2 p 0=false:=Bii hsl
  have ao:=Jq w
  refine Al (kk O ?_)
  refine Asb rfl rfl fun b5 b6 a3 a4=>Av (iV 2) (Au (iV 2) (l_k a4 (Ao (Cc (fun mm ee dd ρ' σ'=>∃(i:Nat) (a:UInt8) (b:UInt8),(p.length-i)=mm∧[]=dd∧ρ=ρ'∧σ=σ'∧ee 0=(.string (bs p))∧ee 1=(.string (bs ([46,46]:List UInt8)))∧ee 5=(.int .u32 (hw 46 46))∧ee 6=(.int .u32 (IntKind.u32.wrap (16777619*16777619)))∧ee 7=iV 2∧ee 8=(.int .u32 (hw a.toNat b.toNat))∧ee 10=iV i∧(2≤i∧i≤p.length)∧(p[i-2]?=some a∧p[i-1]?=some b)∧(∀j,j<i-1→m2 p j=false)∧True) (m:=_) ⟨2,g,u,rfl,rfl,rfl,rfl,rfl,rfl,rfl,rfl,rfl,congrArg (Value.int .u32) Ajd,rfl,⟨Jd _,hl⟩,⟨C,D⟩,Xm (i:=0) (fun j hj=>absurd hj (by omega)) e,trivial⟩ ?_))))
  rintro m24 e24 _ _ _ ⟨i,a,b,rfl,rfl,rfl,rfl,h24_0,h24_1,h24_5,h24_6,h24_7,h24_8,h24_10,p24_0,p24_1,p24_2,_⟩
  obtain⟨br,bu⟩:=p24_0
  obtain⟨M,I⟩:=p24_1
  refine Asb rfl rfl fun b7 b8 a5 a6=>l_v (Ah (v:=iV i) h24_10) (l_v (Ah (v:=.string (bs p)) h24_0) (l_v (Dy Btr (p:=p) rfl) (l_v (Da rfl rfl) (l_k a6 (Bf (t:=decide ((i:Int)<(p.length:Int))) rfl (fun G=>?_) (fun G=>?_))))))
  ·have ap:=lZ1 G
   refine Al (kk a5 ?_)
   refine Ao (w_q rfl rfl fun b9 a7=>l_v (Ah (v:=.int .u32 (hw a.toNat b.toNat)) h24_8) (l_v (Wq rfl rfl (z:=IntKind.u32.wrap ((hw a.toNat b.toNat)*16777619)) rfl) (Au (.int .u32 (IntKind.u32.wrap ((hw a.toNat b.toNat)*16777619))) (Arx rfl rfl a7 fun ba a8=>Av (.int .u32 (IntKind.u32.wrap ((hw a.toNat b.toNat)*16777619))) (l_v (Ah (v:=.string (bs p)) h24_0) (l_v (Ah (v:=iV i) h24_10) ?_))))))
   obtain⟨k,E⟩:=Vr (p:=p) (i:=i) (by first|omega|(simp only[lZ6];omega))
   have c1:=k.toNat_lt
   refine l_v (Gp (p:=p) i k Btr rfl (q:=(i:Int)) rfl rfl E) (l_v (Acf (p:=(k.toNat:Int)) (z:=(k.toNat:Int)) Bud Buo rfl (Dm (by omega) (by omega))) (l_v (Br rfl rfl (z:=IntKind.u32.wrap ((IntKind.u32.wrap ((hw a.toNat b.toNat)*16777619))+(k.toNat:Int))) rfl) (Au (.int .u32 (IntKind.u32.wrap ((IntKind.u32.wrap ((hw a.toNat b.toNat)*16777619))+(k.toNat:Int)))) (Arx rfl rfl a8 fun bb a9=>Av (.int .u32 (IntKind.u32.wrap ((IntKind.u32.wrap ((hw a.toNat b.toNat)*16777619))+(k.toNat:Int)))) (l_v (Ah (v:=.int .u32 (IntKind.u32.wrap (16777619*16777619))) h24_6) (l_v (Ah (v:=.string (bs p)) h24_0) (l_v (Ah (v:=iV i) h24_10) (l_v (Ah (v:=iV 2) h24_7) (l_v (Ou rfl rfl (z:=(((i-2):Nat):Int)) (Bo (by omega) (by omega) (by omega))) ?_)))))))))
   obtain⟨K,U⟩:=Vr (p:=p) (i:=i-2) (by first|omega|(simp only[lZ6];omega))
   have c2:=K.toNat_lt
   obtain rfl:a=K:=Option.some.inj (M.symm.trans U)
   refine l_v (Gp (p:=p) (i-2) a Btr rfl (q:=(((i-2):Nat):Int)) rfl rfl M) (l_v (Acf (p:=(a.toNat:Int)) (z:=(a.toNat:Int)) Bud Buo rfl (Dm (by omega) (by omega))) (l_v (Wq rfl rfl (z:=IntKind.u32.wrap ((IntKind.u32.wrap (16777619*16777619))*(a.toNat:Int))) rfl) (l_v (Ou rfl rfl (z:=IntKind.u32.wrap ((IntKind.u32.wrap ((IntKind.u32.wrap ((hw a.toNat b.toNat)*16777619))+(k.toNat:Int)))-(IntKind.u32.wrap ((IntKind.u32.wrap (16777619*16777619))*(a.toNat:Int))))) rfl) (Au (.int .u32 (IntKind.u32.wrap ((IntKind.u32.wrap ((IntKind.u32.wrap ((hw a.toNat b.toNat)*16777619))+(k.toNat:Int)))-(IntKind.u32.wrap ((IntKind.u32.wrap (16777619*16777619))*(a.toNat:Int)))))) (Arx rfl rfl a9 fun bc aa=>l_v (Ah (v:=iV i) h24_10) (l_v (Cw (((i+1):Nat):Int)) (Au (iV ((i+1):Nat)) (Arx rfl rfl aa fun bd R=>l_v (Ah (v:=.int .u32 (hw b.toNat k.toNat)) (congrArg (Value.int .u32) Zq)) (l_v (Ah (v:=.int .u32 (hw 46 46)) h24_5) (l_v (Ek rfl rfl) (Av (.bool ((hw b.toNat k.toNat)==(hw 46 46))) (Cn ((hw b.toNat k.toNat)==(hw 46 46)) (fun c=>?_) (fun c=>?_)))))))))))))
   ·have aq:=Jr c
    refine Aa (gY rfl c) (Ah (v:=.string (bs p)) h24_0) (l_M (iV ((i+1):Nat)) (gY rfl c) rfl (Aa (gY rfl c) (Ah (v:=iV 2) h24_7) (Aa (gY rfl c) (Ou rfl rfl (z:=((((i+1)-2):Nat):Int)) (Bo (by omega) (by omega) (by omega))) (l_M (iV ((i+1):Nat)) (gY rfl c) rfl (Aa (gY rfl c) (Ui (p:=p) (l:=(i+1)-2) (h:=i+1) Btr rfl (.inr ⟨_,rfl,rfl⟩) (.inr ⟨_,rfl,rfl⟩) (by first|omega|(simp only[lZ6];omega)) (by first|omega|(simp only[lZ6];omega))) (Aa (gY rfl c) (Ah (v:=.string (bs ([46,46]:List UInt8))) h24_1) (Aa (gY rfl c) (Od (p:=(p.take (i+1)).drop ((i+1)-2)) (q:=([46,46]:List UInt8)) rfl rfl) (l_v (Bt rfl c (v:=.bool ((((p.take (i+1)).drop ((i+1)-2)))==([46,46]:List UInt8))) rfl) (l_k R (Bf (t:=(((p.take (i+1)).drop ((i+1)-2)))==([46,46]:List UInt8)) rfl (fun x=>?_) (fun x=>?_)))))))))))
    ·have hsl:(((p.take (i-1+2)).drop (i-1))==([46,46]:List UInt8))=true:=by have:=x;rw[show i-1+2=i+1 by omega];exact this
     have e:m2 p (i-1)=true:=Bqr hsl
     have ar:=Jr x
     refine w_q rfl rfl fun be ab=>Av (iV ((i+1):Nat)) (l_v (Ah (v:=iV 2) h24_7) (l_v (Ou rfl rfl (z:=((((i+1)-2):Nat):Int)) (Bo (by omega) (by omega) (by omega))) (Au (iV ((((i+1)-2):Nat):Int)) (l_k ab (Aq (B ⟨rfl,rfl,eT (iV ((((i+1)-2):Nat):Int)) ?_⟩))))))
     rw[Vv (i:=i-1) p24_2 e,show i+1-2=i-1 by omega]
    have hsl:(((p.take (i-1+2)).drop (i-1))==([46,46]:List UInt8))=false:=by have:=x;rw[show i-1+2=i+1 by omega];exact this
    have e:m2 p (i-1)=false:=Bii hsl
    have ar:=Jq x
    refine Al ⟨_,?_,i+1,b,k,rfl,rfl,rfl,rfl,h24_0,h24_1,h24_5,h24_6,h24_7,congrArg (Value.int .u32) Zq,rfl,⟨by omega,by omega⟩,⟨by rw[show i+1-2=i-1 by omega];exact I,by rw[show i+1-1=i by omega];exact E⟩,fun j hj=>Xm (i:=i-1) p24_2 e j (by omega),trivial⟩
    omega
   have e:m2 p (i-1)=false:=Bfz (a:=b) I (by rw[show i-1+1=i by omega];exact E) (Jq c)
   have aq:=Jq c
   refine Ap (gN rfl c) (Ap (gN rfl c) (Ap (gN rfl c) (Ap (gN rfl c) (Ap (gN rfl c) (Ap (gN rfl c) (Ap (gN rfl c) (Ap (gN rfl c) (l_v (Bn rfl c (v:=bF) rfl) (l_k R (Cg rfl rfl (Al ⟨_,?_,i+1,b,k,rfl,rfl,rfl,rfl,h24_0,h24_1,h24_5,h24_6,h24_7,congrArg (Value.int .u32) Zq,rfl,⟨by omega,by omega⟩,⟨by rw[show i+1-2=i-1 by omega];exact I,by rw[show i+1-1=i by omega];exact E⟩,fun j hj=>Xm (i:=i-1) p24_2 e j (by omega),trivial⟩)))))))))))
   omega
  have ap:=lZ0 G
  refine Bx (kk a3 ?_)
  refine w_q rfl rfl fun bf ac=>Au (iV (-1)) (l_k ac (Aq (B (rT (iV (-1)) ?_))))
  rw[Te fun j hj=>p24_2 j (by omega)]
 have e:m2 p 0=false:=Bfz C D (Jq f)
 have an:=Jq f
 refine Ap (gN rfl f) (Ap (gN rfl f) (Ap (gN rfl f) (Ap (gN rfl f) (Ap (gN rfl f) (l_v (Bn rfl f (v:=bF) rfl) (l_k P (Cg rfl rfl (Al (kk O ?_)))))))))
 refine Asb rfl rfl fun bg bh ad ae=>Av (iV 2) (Au (iV 2) (l_k ae (Ao (Cc (fun mm ee dd ρ' σ'=>∃(i:Nat) (a:UInt8) (b:UInt8),(p.length-i)=mm∧[]=dd∧ρ=ρ'∧σ=σ'∧ee 0=(.string (bs p))∧ee 1=(.string (bs ([46,46]:List UInt8)))∧ee 5=(.int .u32 (hw 46 46))∧ee 6=(.int .u32 (IntKind.u32.wrap (16777619*16777619)))∧ee 7=iV 2∧ee 8=(.int .u32 (hw a.toNat b.toNat))∧ee 10=iV i∧(2≤i∧i≤p.length)∧(p[i-2]?=some a∧p[i-1]?=some b)∧(∀j,j<i-1→m2 p j=false)∧True) (m:=_) ⟨2,g,u,rfl,rfl,rfl,rfl,rfl,rfl,rfl,rfl,rfl,congrArg (Value.int .u32) Ajd,rfl,⟨Jd _,hl⟩,⟨C,D⟩,Xm (i:=0) (fun j hj=>absurd hj (by omega)) e,trivial⟩ ?_))))
 rintro m41 e41 _ _ _ ⟨i,a,b,rfl,rfl,rfl,rfl,h41_0,h41_1,h41_5,h41_6,h41_7,h41_8,h41_10,p41_0,p41_1,p41_2,_⟩
 obtain⟨bt,bv⟩:=p41_0
 obtain⟨N,J⟩:=p41_1
 refine Asb rfl rfl fun bi bj af ag=>l_v (Ah (v:=iV i) h41_10) (l_v (Ah (v:=.string (bs p)) h41_0) (l_v (Dy Btr (p:=p) rfl) (l_v (Da rfl rfl) (l_k ag (Bf (t:=decide ((i:Int)<(p.length:Int))) rfl (fun H=>?_) (fun H=>?_))))))
 ·have au:=lZ1 H
  refine Al (kk af ?_)
  refine Ao (w_q rfl rfl fun bk ah=>l_v (Ah (v:=.int .u32 (hw a.toNat b.toNat)) h41_8) (l_v (Wq rfl rfl (z:=IntKind.u32.wrap ((hw a.toNat b.toNat)*16777619)) rfl) (Au (.int .u32 (IntKind.u32.wrap ((hw a.toNat b.toNat)*16777619))) (Arx rfl rfl ah fun bl ai=>Av (.int .u32 (IntKind.u32.wrap ((hw a.toNat b.toNat)*16777619))) (l_v (Ah (v:=.string (bs p)) h41_0) (l_v (Ah (v:=iV i) h41_10) ?_))))))
  obtain⟨n,F⟩:=Vr (p:=p) (i:=i) (by first|omega|(simp only[lZ6];omega))
  have c3:=n.toNat_lt
  refine l_v (Gp (p:=p) i n Btr rfl (q:=(i:Int)) rfl rfl F) (l_v (Acf (p:=(n.toNat:Int)) (z:=(n.toNat:Int)) Bud Buo rfl (Dm (by omega) (by omega))) (l_v (Br rfl rfl (z:=IntKind.u32.wrap ((IntKind.u32.wrap ((hw a.toNat b.toNat)*16777619))+(n.toNat:Int))) rfl) (Au (.int .u32 (IntKind.u32.wrap ((IntKind.u32.wrap ((hw a.toNat b.toNat)*16777619))+(n.toNat:Int)))) (Arx rfl rfl ai fun bm aj=>Av (.int .u32 (IntKind.u32.wrap ((IntKind.u32.wrap ((hw a.toNat b.toNat)*16777619))+(n.toNat:Int)))) (l_v (Ah (v:=.int .u32 (IntKind.u32.wrap (16777619*16777619))) h41_6) (l_v (Ah (v:=.string (bs p)) h41_0) (l_v (Ah (v:=iV i) h41_10) (l_v (Ah (v:=iV 2) h41_7) (l_v (Ou rfl rfl (z:=(((i-2):Nat):Int)) (Bo (by omega) (by omega) (by omega))) ?_)))))))))
  obtain⟨L,V⟩:=Vr (p:=p) (i:=i-2) (by first|omega|(simp only[lZ6];omega))
  have c4:=L.toNat_lt
  obtain rfl:a=L:=Option.some.inj (N.symm.trans V)
  refine l_v (Gp (p:=p) (i-2) a Btr rfl (q:=(((i-2):Nat):Int)) rfl rfl N) (l_v (Acf (p:=(a.toNat:Int)) (z:=(a.toNat:Int)) Bud Buo rfl (Dm (by omega) (by omega))) (l_v (Wq rfl rfl (z:=IntKind.u32.wrap ((IntKind.u32.wrap (16777619*16777619))*(a.toNat:Int))) rfl) (l_v (Ou rfl rfl (z:=IntKind.u32.wrap ((IntKind.u32.wrap ((IntKind.u32.wrap ((hw a.toNat b.toNat)*16777619))+(n.toNat:Int)))-(IntKind.u32.wrap ((IntKind.u32.wrap (16777619*16777619))*(a.toNat:Int))))) rfl) (Au (.int .u32 (IntKind.u32.wrap ((IntKind.u32.wrap ((IntKind.u32.wrap ((hw a.toNat b.toNat)*16777619))+(n.toNat:Int)))-(IntKind.u32.wrap ((IntKind.u32.wrap (16777619*16777619))*(a.toNat:Int)))))) (Arx rfl rfl aj fun bn ak=>l_v (Ah (v:=iV i) h41_10) (l_v (Cw (((i+1):Nat):Int)) (Au (iV ((i+1):Nat)) (Arx rfl rfl ak fun bo T=>l_v (Ah (v:=.int .u32 (hw b.toNat n.toNat)) (congrArg (Value.int .u32) Zq)) (l_v (Ah (v:=.int .u32 (hw 46 46)) h41_5) (l_v (Ek rfl rfl) (Av (.bool ((hw b.toNat n.toNat)==(hw 46 46))) (Cn ((hw b.toNat n.toNat)==(hw 46 46)) (fun d=>?_) (fun d=>?_)))))))))))))
  ·have av:=Jr d
   refine Aa (gY rfl d) (Ah (v:=.string (bs p)) h41_0) (l_M (iV ((i+1):Nat)) (gY rfl d) rfl (Aa (gY rfl d) (Ah (v:=iV 2) h41_7) (Aa (gY rfl d) (Ou rfl rfl (z:=((((i+1)-2):Nat):Int)) (Bo (by omega) (by omega) (by omega))) (l_M (iV ((i+1):Nat)) (gY rfl d) rfl (Aa (gY rfl d) (Ui (p:=p) (l:=(i+1)-2) (h:=i+1) Btr rfl (.inr ⟨_,rfl,rfl⟩) (.inr ⟨_,rfl,rfl⟩) (by first|omega|(simp only[lZ6];omega)) (by first|omega|(simp only[lZ6];omega))) (Aa (gY rfl d) (Ah (v:=.string (bs ([46,46]:List UInt8))) h41_1) (Aa (gY rfl d) (Od (p:=(p.take (i+1)).drop ((i+1)-2)) (q:=([46,46]:List UInt8)) rfl rfl) (l_v (Bt rfl d (v:=.bool ((((p.take (i+1)).drop ((i+1)-2)))==([46,46]:List UInt8))) rfl) (l_k T (Bf (t:=(((p.take (i+1)).drop ((i+1)-2)))==([46,46]:List UInt8)) rfl (fun y=>?_) (fun y=>?_)))))))))))
   ·have hsl:(((p.take (i-1+2)).drop (i-1))==([46,46]:List UInt8))=true:=by have:=y;rw[show i-1+2=i+1 by omega];exact this
    have e:m2 p (i-1)=true:=Bqr hsl
    have aw:=Jr y
    refine w_q rfl rfl fun bp al=>Av (iV ((i+1):Nat)) (l_v (Ah (v:=iV 2) h41_7) (l_v (Ou rfl rfl (z:=((((i+1)-2):Nat):Int)) (Bo (by omega) (by omega) (by omega))) (Au (iV ((((i+1)-2):Nat):Int)) (l_k al (Aq (B ⟨rfl,rfl,eT (iV ((((i+1)-2):Nat):Int)) ?_⟩))))))
    rw[Vv (i:=i-1) p41_2 e,show i+1-2=i-1 by omega]
   have hsl:(((p.take (i-1+2)).drop (i-1))==([46,46]:List UInt8))=false:=by have:=y;rw[show i-1+2=i+1 by omega];exact this
   have e:m2 p (i-1)=false:=Bii hsl
   have aw:=Jq y
   refine Al ⟨_,?_,i+1,b,n,rfl,rfl,rfl,rfl,h41_0,h41_1,h41_5,h41_6,h41_7,congrArg (Value.int .u32) Zq,rfl,⟨by omega,by omega⟩,⟨by rw[show i+1-2=i-1 by omega];exact J,by rw[show i+1-1=i by omega];exact F⟩,fun j hj=>Xm (i:=i-1) p41_2 e j (by omega),trivial⟩
   omega
  have e:m2 p (i-1)=false:=Bfz (a:=b) J (by rw[show i-1+1=i by omega];exact F) (Jq d)
  have av:=Jq d
  refine Ap (gN rfl d) (Ap (gN rfl d) (Ap (gN rfl d) (Ap (gN rfl d) (Ap (gN rfl d) (Ap (gN rfl d) (Ap (gN rfl d) (Ap (gN rfl d) (l_v (Bn rfl d (v:=bF) rfl) (l_k T (Cg rfl rfl (Al ⟨_,?_,i+1,b,n,rfl,rfl,rfl,rfl,h41_0,h41_1,h41_5,h41_6,h41_7,congrArg (Value.int .u32) Zq,rfl,⟨by omega,by omega⟩,⟨by rw[show i+1-2=i-1 by omega];exact J,by rw[show i+1-1=i by omega];exact F⟩,fun j hj=>Xm (i:=i-1) p41_2 e j (by omega),trivial⟩)))))))))))
  omega
 have au:=lZ0 H
 refine Bx (kk ad ?_)
 refine w_q rfl rfl fun bq am=>Au (iV (-1)) (l_k am (Aq (B (rT (iV (-1)) ?_))))
 rw[Te fun j hj=>p41_2 j (by omega)]
theorem Bbj{n:Nat}(hn:n≤60000):CallsH (CX mn X) 194 #[iV n] ρ σ (rP ρ σ (iV ((((n+16)/8):Nat):Int))):=by
 refine Bq 6 [2] Tryz.func194 rfl fun Q a f=>w_q rfl rfl fun d b=>Au (iV 0) (Arx rfl rfl b fun e c=>Av (iV n) (l_v (Cw (((n+16):Nat):Int)) (l_v (Wr (p:=(((n+16):Nat):Int)) (q:=8) rfl rfl (by omega) (z:=((((n+16)/8):Nat):Int)) wrR) (Au (iV ((((n+16)/8):Nat):Int)) (l_k c (Aq (a ⟨rfl,rfl,eT (iV ((((n+16)/8):Nat):Int)) ?_⟩)))))))
 rfl
theorem Bki{p:List UInt8}(hg:GlobE ρ)(hb:p.length≤60000):CallsH (CX mn X) 182 #[.string (bs p),.string (bs ([46,46]:List UInt8))] ρ σ (rP ρ σ (iV (Ha p))):=by
 obtain⟨z,d4,co,w,hzr⟩:=hg.mlen
 refine Bq 143 [4] Bwu rfl fun Q f cz=>w_q rfl rfl fun K1 k1=>Au (iV 0) (Arx rfl rfl k1 fun K2 k2=>Av (.string (bs ([46,46]:List UInt8))) (l_v (Dy Btr (p:=([46,46]:List UInt8)) rfl) (Au (iV 2) (Asa k2 fun K3 k3=>?_))))
 have a0:∀  (ee:Env),(ee 0=(.string (bs p)))∧(ee 1=(.string (bs ([46,46]:List UInt8))))∧(ee 5=iV 2)∧(2<p.length)∧True→K3 ee [] ρ σ:=by
  rintro e3 ⟨h3_0,h3_1,h3_5,p3_0,_⟩
  have hlp:=p3_0
  apply k3
  refine w_q rfl rfl fun K4 k4=>l_v (Ah (v:=.string (bs ([46,46]:List UInt8))) h3_1) ?_
  obtain⟨N,P⟩:=Vr (p:=([46,46]:List UInt8)) (i:=0) (by first|decide|omega|(simp only[lZ4,lZ6]at *;omega))
  have d2:=N.toNat_lt
  obtain rfl:N=46:=Ahf P
  refine l_v (Gp (p:=([46,46]:List UInt8)) 0 (46:UInt8) Btr rfl (q:=0) rfl rfl P) (Au (.int .u8 (((46:UInt8).toNat:Nat):Int)) (Arx rfl rfl k4 fun K6 k6=>l_v (Ah (v:=.string (bs ([46,46]:List UInt8))) h3_1) ?_))
  obtain⟨O,R⟩:=Vr (p:=([46,46]:List UInt8)) (i:=1) (by first|decide|omega|(simp only[lZ4,lZ6]at *;omega))
  have d3:=O.toNat_lt
  obtain rfl:O=46:=Ahf R
  refine l_v (Gp (p:=([46,46]:List UInt8)) 1 (46:UInt8) Btr rfl (q:=1) rfl rfl R) (Au (.int .u8 (((46:UInt8).toNat:Nat):Int)) (Arx rfl rfl k6 fun K8 k8=>Au (iV 0) (Arx rfl rfl k8 fun K9 k9=>l_v (Ah (v:=.string (bs p)) h3_0) (l_v (Dy Btr (p:=p) rfl) (l_v (Ah (v:=iV 2) h3_5) (l_v (Ou rfl rfl (z:=(((p.length-2):Nat):Int)) (Bo (by omega) (by omega) (by omega))) (l_v (Cw ((((p.length-2)+1):Nat):Int)) (Au (iV ((((p.length-2)+1):Nat):Int)) (Arx rfl rfl k9 fun bk a8=>Au (iV 0) (Asa a8 fun bl a9=>Ao (Cc (fun mm ee dd ρ' σ'=>∃(i:Nat) (k:Nat),(p.length-i)=mm∧[]=dd∧ρ=ρ'∧σ=σ'∧ee 0=(.string (bs p))∧ee 1=(.string (bs ([46,46]:List UInt8)))∧ee 5=iV 2∧ee 6=(.int .u8 (((46:UInt8).toNat:Nat):Int))∧ee 7=(.int .u8 (((46:UInt8).toNat:Nat):Int))∧ee 9=(iV ((((p.length-2)+1):Nat):Int))∧ee 8=iV i∧ee 10=iV k∧(i+1≤p.length∧k≤i)∧(∀j,j<i→m2 p j=false)∧True) (m:=_) ⟨0,0,rfl,rfl,rfl,rfl,h3_0,h3_1,h3_5,rfl,rfl,rfl,rfl,rfl,⟨by omega,Jd _⟩,fun j hj=>absurd hj (by omega),trivial⟩ ?_)))))))))))
  rintro m12 e12 _ _ _ ⟨i,k,rfl,rfl,rfl,rfl,h12_0,h12_1,h12_5,h12_6,h12_7,h12_9,h12_8,h12_10,p12_0,p12_1,_⟩
  obtain⟨cs,cy⟩:=p12_0
  refine Asb rfl rfl fun bm bn aa ab=>l_v (Ah (v:=iV i) h12_8) (l_v (Ah (v:=iV ((((p.length-2)+1):Nat):Int)) h12_9) (l_v (Da rfl rfl) (l_k ab (Bf (t:=decide ((i:Int)<((((p.length-2)+1):Nat):Int))) rfl (fun G=>?_) (fun G=>?_)))))
  ·have b6:=lZ1 G
   refine Al (kk aa ?_)
   refine Ao (Ai fun a1 ac=>?_)
   have Z:∀(j:Nat) (ee:Env),(ee 0=(.string (bs p)))∧(ee 1=(.string (bs ([46,46]:List UInt8))))∧(ee 5=iV 2)∧(ee 6=(.int .u8 (((46:UInt8).toNat:Nat):Int)))∧(ee 7=(.int .u8 (((46:UInt8).toNat:Nat):Int)))∧(ee 9=(iV ((((p.length-2)+1):Nat):Int)))∧(ee 10=iV k)∧(ee 8=iV j)∧(i≤j∧j+1<p.length)∧(p[j]?=some 46)∧(∀t,t<j→m2 p t=false)∧True→a1 ee [] ρ σ:=by
    rintro j e16 ⟨h16_0,h16_1,h16_5,h16_6,h16_7,h16_9,h16_10,h16_8,p16_0,p16_1,p16_2,_⟩
    obtain⟨cw,cx⟩:=p16_0
    apply ac
    refine Asb rfl rfl fun bo bp ad U=>l_v (Ah (v:=.string (bs p)) h16_0) (l_v (Ah (v:=iV j) h16_8) (l_v (Cw (((j+1):Nat):Int)) ?_))
    obtain⟨C,F⟩:=Vr (p:=p) (i:=j+1) (by first|decide|omega|(simp only[lZ4,lZ6]at *;omega))
    have d0:=C.toNat_lt
    refine l_v (Gp (p:=p) (j+1) C Btr rfl (q:=(((j+1):Nat):Int)) rfl rfl F) (l_v (Ah (v:=.int .u8 (((46:UInt8).toNat:Nat):Int)) h16_7) (l_v (Ek rfl rfl) (Av (.bool ((C.toNat:Int)==(((46:UInt8).toNat:Nat):Int))) (Cn ((C.toNat:Int)==(((46:UInt8).toNat:Nat):Int)) (fun a=>?_) (fun a=>?_)))))
    ·have T:C=46:=Bev (n:=46) (Jr a)
     have hM:m2 p j=true:=Arc.2 ⟨p16_1,by rw[F,T]⟩
     have b7:=Jr a
     refine Aa (gY rfl a) (Ah (v:=.string (bs p)) h16_0) (Aa (gY rfl a) (Ah (v:=iV j) h16_8) (Aa (gY rfl a) (Ah (v:=iV j) h16_8) (Aa (gY rfl a) (Ah (v:=iV 2) h16_5) (Aa (gY rfl a) (Cw (((j+2):Nat):Int)) (Aa (gY rfl a) (Ui (p:=p) (l:=j) (h:=j+2) Btr rfl (.inr ⟨_,rfl,rfl⟩) (.inr ⟨_,rfl,rfl⟩) (by first|decide|omega|(simp only[lZ4,lZ6]at *;omega)) (by first|decide|omega|(simp only[lZ4,lZ6]at *;omega))) (Aa (gY rfl a) (Ah (v:=.string (bs ([46,46]:List UInt8))) h16_1) (Aa (gY rfl a) (Od (p:=(p.take (j+2)).drop j) (q:=([46,46]:List UInt8)) rfl rfl) (l_v (Bt rfl a (v:=.bool ((((p.take (j+2)).drop j))==([46,46]:List UInt8))) rfl) (l_k U (Co rfl (by rw[show j+2=j+1+1 by omega]at *;rw[sl2 p16_1 (by rw[F,T])]<;>rfl) (w_q rfl rfl fun bq ae=>l_v (Ah (v:=iV j) h16_8) (Au (iV j) (l_k ae (Aq (f (rT (iV j) ?_))))))))))))))))
     rw[Vv p16_2 hM]
    have hM:m2 p j=false:=Bth F (Asy (n:=46) (Jq a))
    have hQ:=Xm (p:=fun j=>m2 p j=false) p16_2 hM
    have b7:=Jq a
    refine Ap (gN rfl a) (Ap (gN rfl a) (Ap (gN rfl a) (Ap (gN rfl a) (Ap (gN rfl a) (Ap (gN rfl a) (Ap (gN rfl a) (Ap (gN rfl a) (l_v (Bn rfl a (v:=bF) rfl) (l_k U (Cg rfl rfl (Al (kk ad ?_))))))))))))
    refine w_q rfl rfl fun br af=>l_v (Ah (v:=iV j) h16_8) (l_v (Cw (((j+1):Nat):Int)) (Au (iV ((j+1):Nat)) (Arx rfl rfl af fun bt ag=>l_v (Ah (v:=iV k) h16_10) (l_v (Cw (((k+1):Nat):Int)) (Au (iV ((k+1):Nat)) (Arx rfl rfl ag fun bu V=>l_v (Ah (v:=iV 2) h16_5) (l_v (Aae (v:=iV z) ⟨_,Bty,rfl⟩ rfl w rfl) (l_v (Uz rfl rfl) (Av (.bool (decide (2≤z))) (Cn (decide (2≤z)) (fun b=>?_) (fun b=>?_)))))))))))
    ·have b8:=lZ1 b
     refine l_M (iV ((k+1):Nat)) (gY rfl b) rfl (l_M (iV ((j+1):Nat)) (gY rfl b) rfl (Ae (gY rfl b) (Bw (Bbj (n:=j+1) (by omega)) Tryz.func194 ?_)))
     refine Aa (gY rfl b) (Gl rfl rfl) (l_v (Bt rfl b (v:=.bool (decide ((((k+1):Nat):Int)>(((((j+1)+16)/8):Nat):Int)))) rfl) (l_k V (Bf (t:=decide ((((k+1):Nat):Int)>(((((j+1)+16)/8):Nat):Int))) rfl (fun H=>?_) (fun H=>?_))))
     ·have b9:=lZ1 H
      refine w_q rfl rfl fun bv ah=>l_v (Ah (v:=.string (bs p)) h16_0) (Av (iV ((j+1):Nat)) (l_v (Ui (p:=p) (l:=j+1) (h:=p.length) Btr rfl (.inr ⟨_,rfl,rfl⟩) (.inl ⟨rfl,rfl⟩) (by first|decide|omega|(simp only[lZ4,lZ6]at *;omega)) (by first|decide|omega|(simp only[lZ4,lZ6]at *;omega))) (l_v (Ah (v:=.string (bs ([46,46]:List UInt8))) h16_1) ?_)))
      have cp:=Ahi (p:=(p.take p.length).drop (j+1));have ct:(((p.take p.length).drop (j+1))).length≤60000:=by first|omega|(simp only[lZ4,lZ6];omega)
      refine Ajs rfl Tryz.func193 rfl rfl rfl rfl (Auo rfl rfl) (Atf (p:=(p.take p.length).drop (j+1)) w (by omega) (by first|omega|(simp only[lZ4,lZ6];omega))) (Au (iV (Ha ((p.take p.length).drop (j+1)))) (Ary rfl rfl ah fun bx bz ai aj=>Av (iV (Ha ((p.take p.length).drop (j+1)))) (l_v (Uy rfl rfl) (l_k aj (Bf (t:=decide ((Ha ((p.take p.length).drop (j+1)))≥0)) rfl (fun I=>?_) (fun I=>?_))))))
      ·have hdr:(∃q:Nat,Ha ((p.take p.length).drop (j+1))=(q:Int)∧Ha p=(q:Int)+(((j+1):Nat):Int))∨(Ha ((p.take p.length).drop (j+1)) = -1∧Ha p = -1):=by rw[Sr];exact Zr hQ
       have ba:=lZ1 I
       refine w_q rfl rfl fun c0 ak=>Av (iV (Ha ((p.take p.length).drop (j+1)))) (Av (iV ((j+1):Nat)) (l_v (Br rfl rfl (z:=(Ha ((p.take p.length).drop (j+1)))+(((j+1):Nat):Int)) (Bo (by rfl) (by omega) (by omega))) (Au (iV ((Ha ((p.take p.length).drop (j+1)))+(((j+1):Nat):Int))) (l_k ak (Aq (f ⟨rfl,rfl,eT (iV ((Ha ((p.take p.length).drop (j+1)))+(((j+1):Nat):Int))) ?_⟩))))))
       rcases hdr with⟨q,u,g⟩|⟨u,g⟩
       ·exact congrArg (Value.int .i64) (by omega)
       ·exfalso;omega
      have hdr:(∃q:Nat,Ha ((p.take p.length).drop (j+1))=(q:Int)∧Ha p=(q:Int)+(((j+1):Nat):Int))∨(Ha ((p.take p.length).drop (j+1)) = -1∧Ha p = -1):=by rw[Sr];exact Zr hQ
      have ba:=lZ0 I
      refine Al (kk ai ?_)
      refine w_q rfl rfl fun c1 al=>Au (iV (-1)) (l_k al (Aq (f (rT (iV (-1)) ?_))))
      rcases hdr with⟨q,u,g⟩|⟨u,g⟩
      ·exfalso;omega
      ·rw[g]
     have b9:=lZ0 H
     refine w_q rfl rfl fun c2 am=>l_v (Ah (v:=iV 2) h16_5) (l_v (Aae (v:=iV z) ⟨_,Bty,rfl⟩ rfl w rfl) (l_v (Gl rfl rfl) (Av (.bool (decide (2>z))) (Ap (gN rfl (Hn (by omega))) (Ap (gN rfl (Hn (by omega))) (Ap (gN rfl (Hn (by omega))) (Ap (gN rfl (Hn (by omega))) (Ap (gN rfl (Hn (by omega))) (l_v (Bn rfl (Hn (by omega)) (v:=bF) rfl) (Av bF (Ap (gN rfl rfl) (Ap (gN rfl rfl) (Ap (gN rfl rfl) (l_v (Bn rfl rfl (v:=bF) rfl) (l_k am (Cg rfl rfl (Al ⟨_,?_,j+1,k+1,rfl,rfl,rfl,rfl,h16_0,h16_1,h16_5,h16_6,h16_7,h16_9,rfl,rfl,⟨by omega,by omega⟩,hQ,trivial⟩)))))))))))))))))
     omega
    have b8:=lZ0 b
    refine Ap (gN rfl b) (Ap (gN rfl b) (Ap (gN rfl b) (Ap (gN rfl b) (l_v (Bn rfl b (v:=bF) rfl) (l_k V (Cg rfl rfl (w_q rfl rfl fun c3 W=>l_v (Ah (v:=iV 2) h16_5) (l_v (Aae (v:=iV z) ⟨_,Bty,rfl⟩ rfl w rfl) (l_v (Gl rfl rfl) (Av (.bool (decide (2>z))) (l_M (iV ((k+1):Nat)) (gY rfl (Hx (by omega))) rfl (l_M (iV ((j+1):Nat)) (gY rfl (Hx (by omega))) rfl (Aa (gY rfl (Hx (by omega))) (Lc (p:=j+1) (q:=4) rfl rfl rfl (by omega)) (Aa (gY rfl (Hx (by omega))) (Cw (((4+((j+1)>>>4)):Nat):Int)) (Aa (gY rfl (Hx (by omega))) (Uy rfl rfl) (l_v (Bt rfl (Hx (by omega)) (v:=.bool (decide ((((k+1):Nat):Int)≥(((4+((j+1)>>>4)):Nat):Int)))) rfl) (Av (.bool (decide ((((k+1):Nat):Int)≥(((4+((j+1)>>>4)):Nat):Int)))) (Cn (decide ((((k+1):Nat):Int)≥(((4+((j+1)>>>4)):Nat):Int))) (fun d=>?_) (fun d=>?_)))))))))))))))))))
    ·have bb:=lZ1 d
     refine l_M (iV ((j+1):Nat)) (gY rfl d) rfl (Aa (gY rfl d) (Ah (v:=iV ((((p.length-2)+1):Nat):Int)) h16_9) (Aa (gY rfl d) (Da rfl rfl) (l_v (Bt rfl d (v:=.bool (decide ((((j+1):Nat):Int)<((((p.length-2)+1):Nat):Int)))) rfl) (l_k W (Bf (t:=decide ((((j+1):Nat):Int)<((((p.length-2)+1):Nat):Int))) rfl (fun J=>?_) (fun J=>?_))))))
     ·have bc:=lZ1 J
      refine w_q rfl rfl fun c4 an=>l_v (Ah (v:=.string (bs p)) h16_0) (Av (iV ((j+1):Nat)) (l_v (Ui (p:=p) (l:=j+1) (h:=p.length) Btr rfl (.inr ⟨_,rfl,rfl⟩) (.inl ⟨rfl,rfl⟩) (by first|decide|omega|(simp only[lZ4,lZ6]at *;omega)) (by first|decide|omega|(simp only[lZ4,lZ6]at *;omega))) (l_v (Ah (v:=.string (bs ([46,46]:List UInt8))) h16_1) ?_)))
      have cq:=Ahi (p:=(p.take p.length).drop (j+1));have cu:(((p.take p.length).drop (j+1))).length≤60000:=by first|omega|(simp only[lZ4,lZ6];omega)
      refine Arv (Bw (Ber (p:=(p.take p.length).drop (j+1)) (by first|omega|(simp only[lZ4,lZ6];omega)) (by first|omega|(simp only[lZ4,lZ6];omega))) Tryz.func195 ?_)
      refine Au (iV (Ha ((p.take p.length).drop (j+1)))) (Ary rfl rfl an fun c6 c8 ao ap=>Av (iV (Ha ((p.take p.length).drop (j+1)))) (l_v (Da rfl rfl) (l_k ap (Bf (t:=decide ((Ha ((p.take p.length).drop (j+1)))<0)) rfl (fun K=>?_) (fun K=>?_)))))
      ·have hdr:(∃q:Nat,Ha ((p.take p.length).drop (j+1))=(q:Int)∧Ha p=(q:Int)+(((j+1):Nat):Int))∨(Ha ((p.take p.length).drop (j+1)) = -1∧Ha p = -1):=by rw[Sr];exact Zr hQ
       have bd:=lZ1 K
       refine w_q rfl rfl fun c9 aq=>Au (iV (-1)) (l_k aq (Aq (f (rT (iV (-1)) ?_))))
       rcases hdr with⟨q,u,g⟩|⟨u,g⟩
       ·exfalso;omega
       ·rw[g]
      have hdr:(∃q:Nat,Ha ((p.take p.length).drop (j+1))=(q:Int)∧Ha p=(q:Int)+(((j+1):Nat):Int))∨(Ha ((p.take p.length).drop (j+1)) = -1∧Ha p = -1):=by rw[Sr];exact Zr hQ
      have bd:=lZ0 K
      refine Al (kk ao ?_)
      refine w_q rfl rfl fun ca ar=>Av (iV ((j+1):Nat)) (Av (iV (Ha ((p.take p.length).drop (j+1)))) (l_v (Cw ((((j+1):Nat):Int)+(Ha ((p.take p.length).drop (j+1))))) (Au (iV ((((j+1):Nat):Int)+(Ha ((p.take p.length).drop (j+1))))) (l_k ar (Aq (f ⟨rfl,rfl,eT (iV ((((j+1):Nat):Int)+(Ha ((p.take p.length).drop (j+1))))) ?_⟩))))))
      rcases hdr with⟨q,u,g⟩|⟨u,g⟩
      ·exact congrArg (Value.int .i64) (by omega)
      ·exfalso;omega
     have bc:=lZ0 J
     refine Al ⟨_,?_,j+1,k+1,rfl,rfl,rfl,rfl,h16_0,h16_1,h16_5,h16_6,h16_7,h16_9,rfl,rfl,⟨by omega,by omega⟩,hQ,trivial⟩
     omega
    have bb:=lZ0 d
    refine Ap (gN rfl d) (Ap (gN rfl d) (Ap (gN rfl d) (l_v (Bn rfl d (v:=bF) rfl) (l_k W (Cg rfl rfl (Al ⟨_,?_,j+1,k+1,rfl,rfl,rfl,rfl,h16_0,h16_1,h16_5,h16_6,h16_7,h16_9,rfl,rfl,⟨by omega,by omega⟩,hQ,trivial⟩))))))
    omega
   refine w_q rfl rfl fun cb au=>l_v (Ah (v:=.string (bs p)) h12_0) (l_v (Ah (v:=iV i) h12_8) ?_)
   obtain⟨D,E⟩:=Vr (p:=p) (i:=i) (by first|decide|omega|(simp only[lZ4,lZ6]at *;omega))
   have d1:=D.toNat_lt
   refine l_v (Gp (p:=p) i D Btr rfl (q:=(i:Int)) rfl rfl E) (l_v (Ah (v:=.int .u8 (((46:UInt8).toNat:Nat):Int)) h12_6) (l_v (Dg rfl rfl) (l_k au (Bf (t:=(D.toNat:Int) != (((46:UInt8).toNat:Nat):Int)) rfl (fun x=>?_) (fun x=>?_)))))
   ·have hne:D≠46:=Asy (n:=46) (Brp x)
    have be:=Ls x
    refine w_q rfl rfl fun cc av=>l_v (Ah (v:=.string (bs p)) h12_0) (l_v (Ah (v:=iV i) h12_8) (l_v (Cw (((i+1):Nat):Int)) (l_v (Ah (v:=iV ((((p.length-2)+1):Nat):Int)) h12_9) (l_v (Ui (p:=p) (l:=i+1) (h:=(p.length-2)+1) Btr rfl (.inr ⟨_,rfl,rfl⟩) (.inr ⟨_,rfl,rfl⟩) (by first|decide|omega|(simp only[lZ4,lZ6]at *;omega)) (by first|decide|omega|(simp only[lZ4,lZ6]at *;omega))) (l_v (Ah (v:=.int .u8 (((46:UInt8).toNat:Nat):Int)) h12_6) (Arv (Bw (Aax (p:=(p.take ((p.length-2)+1)).drop (i+1)) (c:=(46:UInt8))) Bws ?_)))))))
    refine Au (iV (Ps (46:UInt8) ((p.take ((p.length-2)+1)).drop (i+1)))) (Ary rfl rfl av fun cd ce aw ax=>Av (iV (Ps (46:UInt8) ((p.take ((p.length-2)+1)).drop (i+1)))) (l_v (Da rfl rfl) (l_k ax (Bf (t:=decide ((Ps (46:UInt8) ((p.take ((p.length-2)+1)).drop (i+1)))<0)) rfl (fun y=>?_) (fun y=>?_)))))
    ·have hno:=Blq (c:=46) y
     have bf:=lZ1 y
     refine w_q rfl rfl fun cf ay=>Au (iV (-1)) (l_k ay (Aq (f (rT (iV (-1)) ?_))))
     rw[Te (Bfo p12_1 E hne hno)]
    obtain⟨m,a3,a4,a5,a6⟩:=Bgb (c:=46) y
    obtain⟨hfa,hfb⟩:=Bps p12_1 E hne a5 a6
    have hml:i+(m+1)+1<p.length:=by simp only[lZ4,lZ6]at a4;omega
    have bf:=lZ0 y
    refine Al (kk aw ?_)
    refine Ag rfl rfl (l_v (Ah (v:=iV i) h12_8) (l_v (Ah (v:=iV m) (congrArg (Value.int .i64) a3)) (l_v (Cw (((m+1):Nat):Int)) (l_v (Cw (((i+(m+1)):Nat):Int)) (Au (iV (((i+(m+1)):Nat):Int)) (Ac ?_))))))
    refine Z (i+(m+1)) _ ⟨h12_0,h12_1,h12_5,h12_6,h12_7,h12_9,h12_10,rfl,⟨by omega,by omega⟩,hfa,hfb,trivial⟩
   have a2:D=46:=Bev (n:=46) (Brq x)
   rw[a2]at E
   have be:=Jh x
   refine Al (Z i _ ⟨h12_0,h12_1,h12_5,h12_6,h12_7,h12_9,h12_10,h12_8,⟨by omega,by omega⟩,E,p12_1,trivial⟩)
  have b6:=lZ0 G
  refine Bx (kk a9 ?_)
  refine w_q rfl rfl fun cg az=>Au (iV (-1)) (l_k az (Aq (f (rT (iV (-1)) ?_))))
  rw[Te fun j hj=>p12_1 j (by omega)]
 refine Ao (w_q rfl rfl fun ch b0=>Av (iV 2) (l_v (Ek rfl rfl) (Av bF (l_M (.string (bs ([46,46]:List UInt8))) (gY rfl rfl) rfl (l_M (.string (bs p)) (gY rfl rfl) rfl (Aa (gY rfl rfl) (Od (p:=([46,46]:List UInt8)) (q:=p) rfl rfl) (l_v (Bn rfl rfl (v:=.bool ((([46,46]:List UInt8))==p)) rfl) (Au (.bool ((([46,46]:List UInt8))==p)) (l_k b0 (Bf (t:=(([46,46]:List UInt8))==p) rfl (fun B=>?_) (fun B=>?_)))))))))))
 ·have a7:=eq_of_beq B
  have bg:=Jr B
  refine w_q rfl rfl fun ci b1=>Au (iV 0) (l_k b1 (Aq (f (rT (iV 0) ?_))))
  rw[←a7];rfl
 have bg:=Jq B
 refine w_q rfl rfl fun cj b2=>Av (iV 2) (l_v (Ek rfl rfl) (Au bF (l_k b2 (Cg rfl rfl (w_q rfl rfl fun ck b3=>Av (iV 2) (Av (.string (bs p)) (l_v (Dy Btr (p:=p) rfl) (l_v (Uy rfl rfl) (Au (.bool (decide (2≥(p.length:Int)))) (l_k b3 (Bf (t:=decide (2≥(p.length:Int))) rfl (fun L=>?_) (fun L=>?_))))))))))))
 ·have bh:=lZ1 L
  refine w_q rfl rfl fun cl b4=>Au (iV (-1)) (l_k b4 (Aq (f (rT (iV (-1)) ?_))))
  rw[Te fun j hj=>Bqq (by omega) (Bro B) j]
 have bh:=lZ0 L
 refine w_q rfl rfl fun cm Y=>Av (iV 2) (l_v (Aae (v:=iV z) ⟨_,Bty,rfl⟩ rfl w rfl) (l_v (Uz rfl rfl) (Av (.bool (decide (2≤z))) (Cn (decide (2≤z)) (fun e=>?_) (fun e=>?_)))))
 ·have bi:=lZ1 e
  refine l_M (.string (bs p)) (gY rfl e) rfl (Aa (gY rfl e) (Dy Btr (p:=p) rfl) (Aa (gY rfl e) (Uz rfl rfl) (l_v (Bt rfl e (v:=.bool (decide ((p.length:Int)≤64))) rfl) (Au (.bool (decide ((p.length:Int)≤64))) (l_k Y (Bf (t:=decide ((p.length:Int)≤64)) rfl (fun M=>?_) (fun M=>?_)))))))
  ·have bj:=lZ1 M
   refine w_q rfl rfl fun cn b5=>Av (.string (bs p)) (Av (.string (bs ([46,46]:List UInt8))) ?_)
   have cr:=Ahi (p:=p);have cv:(p).length≤60000:=by first|omega|(simp only[lZ4,lZ6];omega)
   refine Ajs rfl Tryz.func193 rfl rfl rfl rfl (Auo rfl rfl) (Atf (p:=p) w (by omega) (by first|omega|(simp only[lZ4,lZ6];omega))) (Au (iV (Ha p)) (l_k b5 (Aq (f (rT (iV (Ha p)) ?_)))))
   rfl
  have bj:=lZ0 M
  refine Al (a0 _ ⟨rfl,rfl,rfl,(by omega),trivial⟩)
 have bi:=lZ0 e
 refine Ap (gN rfl e) (Ap (gN rfl e) (Ap (gN rfl e) (l_v (Bn rfl e (v:=bF) rfl) (Au bF (l_k Y (Cg rfl rfl (Al (a0 _ ⟨rfl,rfl,rfl,(by omega),trivial⟩))))))))
end
section
open Go
structure Rdg where
 l:Lab
 m:Market
 last:Int
deriving DecidableEq
instance:Dat Rdg:=.iso fun x=>(x.l,(x.m,x.last))
theorem Rdg.f_l:Fld Rdg Lab 0 Rdg.l:=⟨fun ρ cs x=>(Fld.fst:Fld ((Lab)×(Market)×(Int)) Lab 0 _).at_ ρ cs (x.l,(x.m,x.last))⟩
theorem Rdg.f_m:Fld Rdg Market 3 Rdg.m:=⟨fun ρ cs x=>((.snd Fld.fst):Fld ((Lab)×(Market)×(Int)) Market 3 _).at_ ρ cs (x.l,(x.m,x.last))⟩
theorem Rdg.shut{ρ:Ro}{x:Rdg}{c0 c1 c2 c3 c4 c5:Value}(h0:Val ρ c0 x.l.kinds)(h1:I64 x.l.most)(h2:Val ρ c1 x.l.tests)(h3:Val ρ c2 x.m.houses)(h4:Val ρ c3 x.m.marks)(h5:Val ρ c4 x.m.fields)(h6:Val ρ c5 x.m.sales)(h7:I64 x.last):Val ρ (.agg #[c0,.int .i64 x.l.most,c1,c2,c3,c4,c5,.int .i64 x.last]) x:=⟨[c0,.int .i64 x.l.most,c1,c2,c3,c4,c5,.int .i64 x.last],⟨[c0]++([.int .i64 x.l.most]++[c1]),([c2]++([c3]++([c4]++[c5])))++[.int .i64 x.last],rfl,⟨[c0],[.int .i64 x.l.most]++[c1],rfl,⟨c0,rfl,Cs.1 h0⟩,⟨[.int .i64 x.l.most],[c1],rfl,⟨rfl,h1⟩,⟨c1,rfl,Cs.1 h2⟩⟩⟩,⟨[c2]++([c3]++([c4]++[c5])),[.int .i64 x.last],rfl,⟨[c2],[c3]++([c4]++[c5]),rfl,⟨c2,rfl,Cs.1 h3⟩,⟨[c3],[c4]++[c5],rfl,⟨c3,rfl,Cs.1 h4⟩,⟨[c4],[c5],rfl,⟨c4,rfl,Cs.1 h5⟩,⟨c5,rfl,Cs.1 h6⟩⟩⟩⟩,⟨rfl,h7⟩⟩⟩,rfl⟩
structure Wrg where
 line:Int
 code:Int
deriving DecidableEq
instance:Dat Wrg:=.iso fun x=>(x.line,x.code)
theorem Wrg.f_line:Fld Wrg Int 0 Wrg.line:=⟨fun ρ cs x=>(Fld.fst:Fld ((Int)×(Int)) Int 0 _).at_ ρ cs (x.line,x.code)⟩
theorem Wrg.f_code:Fld Wrg Int 1 Wrg.code:=⟨fun ρ cs x=>((.snd Fld.self):Fld ((Int)×(Int)) Int 1 _).at_ ρ cs (x.line,x.code)⟩
theorem Wrg.shut{ρ:Ro}{x:Wrg}(h0:I64 x.line)(h1:I64 x.code):Val ρ (.agg #[.int .i64 x.line,.int .i64 x.code]) x:=⟨[.int .i64 x.line,.int .i64 x.code],⟨[.int .i64 x.line],[.int .i64 x.code],rfl,⟨rfl,h0⟩,⟨rfl,h1⟩⟩,rfl⟩
def Brh:List Value:=[.slice none 0 0,.int .i64 0,.slice none 0 0,.slice none 0 0,.slice none 0 0,.slice none 0 0,.slice none 0 0,.int .i64 0]
theorem Brk:Fw Tryz.prog 101 (.agg #[.slice none 0 0,.int .i64 0,.slice none 0 0,.slice none 0 0,.slice none 0 0,.slice none 0 0,.slice none 0 0,.int .i64 0]):=⟨_,Ab Tryz.typeInfo101,rfl⟩
def Aga:List Value:=[.int .i64 0,.int .i64 0]
theorem Agc:Fw Tryz.prog 107 (.agg #[.int .i64 0,.int .i64 0]):=⟨_,Ab Tryz.typeInfo107,rfl⟩
end
section
open Go
def RdB(p:PSt)(n:Nat):Prop:=p.l.kinds.length≤n∧p.l.tests.length≤n∧p.m.houses.length≤n∧p.m.marks.length≤n∧p.m.fields.length≤n∧p.m.sales.length≤n
theorem Afo{x:List UInt8}:findI [bs Qx,bs Mq,bs wNo] (bs x)=(match Pb x with|some k=>k|none=>-1):=by
 have e:∀w:List UInt8,((bs w).data.toList=(bs x).data.toList)=(x=w):=fun w=>by show (w=x)=_;exact propext eq_comm
 have a:findI [] (bs x) = -1:=rfl
 unfold Pb
 simp only[Bcb,e,a]
 by_cases h0:x=Qx
 ·simp[h0]
 by_cases h1:x=Mq
 ·subst h1;decide
 by_cases h2:x=wNo
 ·subst h2;decide
 simp[h0,h1,h2]
theorem Bnb{x:List UInt8}:-1≤findI [bs Qx,bs Mq,bs wNo] (bs x)∧findI [bs Qx,bs Mq,bs wNo] (bs x)≤2:=by
 rw[Afo]
 unfold Pb
 split
 ·rename_i k h
  split at h
  ·cases h;omega
  ·split at h
   ·cases h;omega
   ·split at h
    ·cases h;omega
    ·cases h
 ·omega
theorem Bnd{x:List UInt8}(h:¬findI [bs Qx,bs Mq,bs wNo] (bs x)<0):Pb x=some (findI [bs Qx,bs Mq,bs wNo] (bs x)):=by
 rw[Afo]at h ⊢
 cases hv:Pb x with
 | some k=>rfl
 | none=>rw[hv]at h;simp at h
theorem Bnc{x:List UInt8}(h:findI [bs Qx,bs Mq,bs wNo] (bs x)<0):Pb x=none:=by
 cases hv:Pb x with
 | none=>rfl
 | some k =>
  rw[Afo,hv]at h
  simp only at h
  unfold Pb at hv
  split at hv
  ·cases hv;omega
  ·split at hv
   ·cases hv;omega
   ·split at hv
    ·cases hv;omega
    ·cases hv
theorem Atp{m:Market}{x:List UInt8}(h:¬findI m.houses (bs x)<0):Iu m x=some (findI m.houses (bs x)):=by unfold Iu;rw[if_pos (by omega)]
theorem Ato{m:Market}{x:List UInt8}(h:findI m.houses (bs x)<0):Iu m x=none:=by unfold Iu;rw[if_neg (by omega)]
theorem Azh{l:List ByteArray}{s:ByteArray}:-1≤findI l s∧findI l s<(l.length:Int):=by
 unfold findI
 rcases Ft (n:=l.length) (p:=Xi l s) with⟨i,hi,_,_,he⟩|⟨_,he⟩
 ·rw[he];simp only;omega
 ·rw[he];simp only;omega
theorem Asj{α β:Type}{f:α→Option β}:∀{l:List α} {r:List β},Gm f l=some r→r.length=l.length
 | [],r,h=>by rw[←Option.some.inj (show some []=some r from h)];rfl
 | a::l,r,h=>by
  have h':(match f a,Gm f l with|some a,some r=>some (a::r)|_,_=>none)=some r:=h
  cases ha:f a with
  | none=>rw[ha]at h';cases h'
  | some b =>
   cases hl:Gm f l with
   | none=>rw[ha,hl]at h';cases h'
   | some r' =>
    rw[ha,hl]at h'
    rw[←Option.some.inj h',lZ3,lZ3,Asj hl]
theorem Bdj{ws:List ByteArray}{r:List Span}(h:Gm Mi (wl ws)=some r)(hl:0<ws.length):0<r.length:=by
 rw[Asj h,Afs];exact hl
section
variable{p:PSt}{u:List UInt8}{ws:List ByteArray}
theorem Amz{α β:Type}{f:α→Option β}{g:α}{v:List α}:Gm f (g::v)=(match f g,Gm f v with|some a,some r=>some (a::r)|_,_=>none):=rfl
end
end
section
open Go
theorem Aql{p:List UInt8}:∀{i:Nat},i≤p.length→(∀j,j<i→m2 p j=false)→Aaj p i
 | 0,_,_=>Btd
 | i+1,hi,h=>by
  obtain⟨c,hc⟩:=Vr (p:=p) (i:=i) (by omega)
  refine Bsc (Aql (by omega) fun j hj=>h j (by omega)) hc ?_
  by_cases h1:c=46
  ·refine .inr fun a=>?_
   have:=h i (by omega)
   rw[Arc.2 ⟨by rw[hc,h1],a⟩]at this;cases this
  ·exact .inl h1
theorem Bff{p:List UInt8}{i:Nat}(hm:m2 p i=true)(hn:∀j,j<i→m2 p j=false):Pw [] p=some ((p.take i).drop 0,(p.take p.length).drop (i+2)):=by
 obtain⟨a,b⟩:=Arc.1 hm
 have:=(lZ8.1 a).1
 exact Blc (Aql (by omega) hn) a rfl b rfl
theorem Blb{p:List UInt8}(h:∀j,m2 p j=false):Pw [] p=none:=Bpj (i:=p.length) (Aql (Jd _) fun j _=>h j) (by omega)
theorem Bga{p:List UInt8}(h:decide (Ha p≥0)=true):∃i:Nat,Ha p=(i:Int)∧i+1<p.length∧Pw [] p=some ((p.take i).drop 0,(p.take p.length).drop (i+2)):=by
 replace h:=lZ1 h
 rcases Zs (p:=p) with⟨i,a,b,c,d⟩|⟨a,_⟩
 ·exact⟨i,a,b,Bff c d⟩
 ·omega
theorem Blp{p:List UInt8}(h:decide (Ha p≥0)=false):Pw [] p=none:=by
 replace h:=lZ0 h
 rcases Zs (p:=p) with⟨i,a,b,c,d⟩|⟨_,a⟩
 ·omega
 ·exact Blb a
theorem Bdu{ρ:Ro}{t:TypeId}{fz:Nat×Nat}{g:Nat}(h:ρ g=some (.cells #[.string (bs Qx),.string (bs Mq),.string (bs wNo)] t fz)):Val ρ (.slice (some ⟨g,0,none⟩) 3 3) [bs Qx,bs Mq,bs wNo]:=by
 refine Cs.2 ⟨_,3,3,rfl,rfl,by omega,by omega,fun i x hx=>⟨g,0,rfl,?_⟩⟩
 have hc:(#[.string (bs Qx),.string (bs Mq),.string (bs wNo)]:Array Value).toList.drop i = .string x::(#[.string (bs Qx),.string (bs Mq),.string (bs wNo)]:Array Value).toList.drop (i+1)∧x.size<2^60:=by
  have hi:=(lZ8.1 hx).1
  have a:i=0∨i=1∨i=2:=by simp at hi;omega
  rcases a with rfl|rfl|rfl<;>(simp only[Aes,Adm,Option.some.injEq]at hx;subst hx;exact⟨rfl,Pj rfl⟩)
 exact⟨g,0+i*Dat.k ByteArray,_,t,fz,[.string x],_,rfl,h,⟨rfl,hc.2⟩,by rw[show 0+i*Dat.k ByteArray=i from by show 0+i*1=i;omega];exact hc.1⟩
end
section
open Go
variable{mn:Bool}{X:Frame→List Frame→Ro→Own→Cy→Prop}{ρ:Ro}{σ:Own}
theorem Boo{p:List UInt8}(hg:GlobE ρ)(hb:p.length≤60000):CallsH (CX mn X) 168 #[.string (bs p),.string (bs ([46,46]:List UInt8))] ρ σ (fun w ρ' σ'=>Ro.le ρ ρ'∧σ'=σ∧((∃a b:List UInt8,Pw [] p=some (a,b)∧a.length≤p.length∧b.length≤p.length∧w = .tuple #[.string (bs a),.string (bs b),bT])∨(Pw [] p=none∧w = .tuple #[.string (bs p),.string (bs []),bF]))):=by
 refine Bq 23 [4,5,6] Tryz.func168 rfl fun Q e F=>w_q rfl rfl fun u f=>Au (.string (ByteArray.mk #[])) (Au (.string (ByteArray.mk #[])) (Au bF (Ary rfl rfl f fun x y g j=>Av (.string (bs p)) (Av (.string (bs ([46,46]:List UInt8))) ?_))))
 have D:=Ahi (p:=p);have E:(p).length≤60000:=by first|omega|(simp only[lZ4,lZ6];omega)
 refine Arv (Bw (Bki (p:=p) hg (by omega)) Bwu ?_)
 refine Au (iV (Ha p)) (Arx rfl rfl j fun z k=>Av (iV (Ha p)) (l_v (Uy rfl rfl) (l_k k (Bf (t:=decide ((Ha p)≥0)) rfl (fun c=>?_) (fun c=>?_)))))
 ·obtain⟨i,hi,hil,d⟩:=Bga c
  have q:=lZ1 c
  refine Ai fun B m=>Pr (Bu 0 (zT 1 11) rfl (Ah (v:=.string (bs p)) rfl) (Bu 1 (zT 2 10) rfl (Ah (v:=iV i) (congrArg (Value.int .i64) hi)) (Bu 2 (zT 3 9) rfl (Ui (p:=p) (l:=0) (h:=i) Btr rfl (.inl ⟨rfl,rfl⟩) (.inr ⟨_,rfl,rfl⟩) (by omega) (by omega)) (Bu 3 (zT 4 8) rfl (Ah (v:=.string (bs p)) rfl) (Bu 4 (zT 5 7) rfl (Ah (v:=iV i) (congrArg (Value.int .i64) hi)) (Bu 5 (zT 6 6) rfl (Ah (v:=.string (bs ([46,46]:List UInt8))) rfl) (Bu 6 (zT 7 5) rfl (Dy Btr (p:=([46,46]:List UInt8)) rfl) (Bu 7 (zT 8 4) rfl (Cw (((i+2):Nat):Int)) (Bu 8 (zT 9 3) rfl (Ui (p:=p) (l:=i+2) (h:=p.length) Btr rfl (.inr ⟨_,rfl,rfl⟩) (.inl ⟨rfl,rfl⟩) (by omega) (by omega)) (Cj 9 (zT 10 2) rfl (Cp (v:=.string (bs ((p.take i).drop 0))) rfl) (Cj 10 (zT 11 1) rfl (Cp (v:=.string (bs ((p.take p.length).drop (i+2)))) rfl) (Cj 11 (zT 12 0) rfl (Cp (v:=bT) rfl) (Ec rfl (kk m ?_))))))))))))))
  refine Aq (e ⟨Bxm,rfl,.inl ⟨_,_,d,by simp only[lZ6,lZ4];omega,by simp only[lZ6,lZ4];omega,Mp (r:=4) (r':=5) (rs:=[6]) (v:=.string (bs ((p.take i).drop 0))) (v':=.string (bs ((p.take p.length).drop (i+2)))) (vs:=[bT]) ⟨rfl,rfl,rfl,trivial⟩⟩⟩)
 have d:=Blp c
 have q:=lZ0 c
 refine Al (kk g ?_)
 refine w_q rfl rfl fun C n=>Av (.string (bs p)) (Au (.string (bs p)) (Au (.string (ByteArray.mk #[])) (Au bF (l_k n (Aq (e ⟨Bxm,rfl,.inr ⟨d,Mp (r:=4) (r':=5) (rs:=[6]) (v:=.string (bs p)) (v':=.string (ByteArray.mk #[])) (vs:=[bF]) ⟨rfl,rfl,rfl,trivial⟩⟩⟩))))))
theorem Brt{p:List UInt8}(hg:GlobE ρ)(hb:p.length≤60000):CallsH (CX mn X) 159 #[.string (bs p),.string (bs ([46,46]:List UInt8))] ρ σ (fun w ρ' σ'=>Ro.le ρ ρ'∧σ'=σ∧((∃a b:List UInt8,Pw [] p=some (a,b)∧a.length≤p.length∧b.length≤p.length∧w = .tuple #[.string (bs a),.string (bs b),bT])∨(Pw [] p=none∧w = .tuple #[.string (bs p),.string (bs []),bF]))):=by
 refine Bq 13 [4,5,6] Tryz.func159 rfl fun Q i u=>w_q rfl rfl fun q n=>Au (.string (ByteArray.mk #[])) (Au (.string (ByteArray.mk #[])) (Au bF (Arx rfl rfl n fun t j=>Av (.string (bs p)) (Av (.string (bs ([46,46]:List UInt8))) (Arv (Cm (vs:=[.string (bs p),.string (bs ([46,46]:List UInt8))]) (Boo (p:=p) hg (by first|omega|(simp only[lZ6,lZ4]at *;omega))) Tryz.func168 rfl rfl ⟨rfl,rfl,trivial⟩ fun x y z f=>?_))))))
 obtain⟨k,f⟩:=f
 rcases f with⟨c,⟨d,e,g,l,m,h⟩|⟨g,h⟩⟩
 ·replace c:=c.symm;subst c h
  refine l_v (Bp (.string (bs d))) (l_v (Bp (.string (bs e))) (l_v (Bp bT) (Au (.string (bs d)) (Au (.string (bs e)) (Au bT (l_k j (Aq (i ⟨k,rfl,.inl ⟨_,_,g,l,m,Mp (r:=4) (r':=5) (rs:=[6]) (v:=.string (bs d)) (v':=.string (bs e)) (vs:=[bT]) ⟨rfl,rfl,rfl,trivial⟩⟩⟩))))))))
 replace c:=c.symm;subst c h
 refine l_v (Bp (.string (bs p))) (l_v (Bp (.string (bs ([]:List UInt8)))) (l_v (Bp bF) (Au (.string (bs p)) (Au (.string (bs ([]:List UInt8))) (Au bF (l_k j (Aq (i ⟨k,rfl,.inr ⟨g,Mp (r:=4) (r':=5) (rs:=[6]) (v:=.string (bs p)) (v':=.string (bs ([]:List UInt8))) (vs:=[bF]) ⟨rfl,rfl,rfl,trivial⟩⟩⟩))))))))
theorem Bet{ws:List ByteArray}{vw:Value}(hg:GlobE ρ)(rw_:Val ρ vw ws)(hn:ws.length≤60001)(hw:∀w∈ws,w.data.toList.length≤60000):CallsH (CX mn X) 145 #[vw] ρ σ (fun w ρ' σ'=>Ro.le ρ ρ'∧σ'=σ∧((Gm Mi (wl ws)=none∧w = .tuple #[nS,bF])∨∃(r:List Span) (v:Value),Gm Mi (wl ws)=some r∧w = .tuple #[v,bT]∧Val ρ' v r)):=by
 refine Bq 60 [2,3] Tryz.func145 rfl fun Q y c8=>w_q rfl rfl fun K1 k1=>Au nS (Au bF (Arx rfl rfl k1 fun K2 k2=>Au nS (Ary rfl rfl k2 fun K3 K4 k3 k4=>Av vw ?_)))
 have g5:=Bxo rw_
 refine l_v (Ci (el:=9) Bts rfl rw_) (Av (iV 0) (l_k k4 (Ao (Cc (fun mm ee dd ρ' σ'=>∃(i:Nat) (nv:List Span) (ov6_4:Value) (og6_4:Own),(ws.length-i)=mm∧[]=dd∧Ro.le ρ ρ'∧(og6_4++σ)=σ'∧ee 14=vw∧ee 15=(iV (ws.length:Int))∧ee 4=ov6_4∧ee 16=iV i∧(i≤ws.length)∧(Gm Mi ((wl ws).take i)=some nv)∧(nv.length≤i)∧Grow ρ' 48 ov6_4 nv og6_4∧True) (m:=_) ⟨0,[],nS,[],rfl,rfl,Bxm,rfl,rfl,rfl,rfl,rfl,Gn _,rfl,Jd _,Hm,trivial⟩ ?_))))
 rintro m6 e6 _ ρ6 _ ⟨i,nv,ov6_4,og6_4,rfl,rfl,l6,rfl,h6_14,h6_15,h6_4,h6_16,p6_0,p6_1,p6_2,OG6_4,_⟩
 replace rw_:=Val.mono l6 rw_
 replace hg:=GlobE.mono l6 hg
 refine w_q rfl rfl fun K7 k7=>l_v (Da h6_16 h6_15) (Asa k7 fun K8 k8=>Bf (t:=decide ((i:Int)<(ws.length:Int))) rfl (fun g=>?_) (fun g=>?_))
 ·have l:=lZ1 g
  refine Al (kk k8 ?_)
  refine Ai fun bf N=>Ao (w_q rfl rfl fun bg am=>?_)
  obtain⟨a,h⟩:=Ed (xs:=ws) (i:=i) (by omega)
  have c9:=hw _ (Hd h)
  refine Arw (Ch i Bts ty9 h6_14 rw_ (q:=(i:Int)) h6_16 rfl h) fun ce W=>?_
  have c2:a.data.toList.length<2^60:=At.slen W
  refine l_v (Pk ty9 rfl W) (Au (.string a) (Arx rfl rfl am fun bh O=>Av (.string a) (Arv (Cm (vs:=[.string a,.string (ByteArray.mk #[46,46])]) (Brt (p:=a.data.toList) hg (by first|omega|(simp only[lZ6,lZ4]at *;omega))) Tryz.func159 rfl rfl ⟨rfl,rfl,trivial⟩ fun cf cj ct E=>?_))))
  obtain⟨k,E⟩:=E
  replace OG6_4:=Bxl k OG6_4
  rcases E with⟨n,⟨b,c,j,c3,c4,I⟩|⟨j,I⟩⟩
  ·replace n:=n.symm;subst n I
   refine Av (.tuple #[.string (bs b),.string (bs c),bT]) (l_v (Bp (.string (bs b))) (l_v (Bp (.string (bs c))) (l_v (Bp bT) (Au (.string (bs b)) (Au (.string (bs c)) (Au bT (Arx rfl rfl O fun bi an=>Av (.string (bs b)) (Arv (Cm (vs:=[.string (bs b)]) (Acy (s:=b) (by first|omega|(simp only[lZ6,lZ4]at *;omega))) Bwm rfl rfl ⟨rfl,trivial⟩ fun cg ck cu ag=>?_)))))))))
   obtain⟨B,F,aj⟩:=ag
   replace F:=F.symm;subst F aj
   replace OG6_4:=Bxl B OG6_4
   have c5:=Ahk (s:=b)
   refine Av (.tuple #[iV (Dp b),.bool (Ee b)]) (l_v (Bp (iV (Dp b))) (l_v (Bp (.bool (Ee b))) (Au (iV (Dp b)) (Au (.bool (Ee b)) (Arx rfl rfl an fun bj ao=>Av (iV (Dp b)) (Au (iV (Dp b)) (Au bT (Ary rfl rfl ao fun bk bl ap aq=>Av bT (l_k aq (Co rfl rfl (Ag rfl rfl (Av (.string (bs c)) (Arv (Cm (vs:=[.string (bs c)]) (Acy (s:=c) (by first|omega|(simp only[lZ6,lZ4]at *;omega))) Bwm rfl rfl ⟨rfl,trivial⟩ fun ch a0 cv ah=>?_))))))))))))))
   obtain⟨C,G,ak⟩:=ah
   replace G:=G.symm;subst G ak
   replace OG6_4:=Bxl C OG6_4
   have c6:=Ahk (s:=c)
   refine Av (.tuple #[iV (Dp c),.bool (Ee c)]) (l_v (Bp (iV (Dp c))) (l_v (Bp (.bool (Ee c))) (Au (iV (Dp c)) (Au (.bool (Ee c)) (Ary rfl rfl ap fun bm bn ar J=>Av (.bool (Ee b)) (l_v (Iy rfl) (Av (.bool (!(Ee b))) (Cn (!(Ee b)) (fun e=>?_) (fun e=>?_)))))))))
   ·have a8:=not_eq_t e
    refine Ap (gN rfl e) (Ap (gN rfl e) (l_v (Bt rfl e (v:=bT) rfl) (Av bT (Ap (gN rfl rfl) (Ap (gN rfl rfl) (Ap (Jf rfl rfl rfl) (Ap (Jf rfl rfl rfl) (Ap (Jf rfl rfl rfl) (Ap (gN rfl rfl) (l_v (Bt rfl rfl (v:=bT) rfl) (l_k J (Co rfl rfl (w_q rfl rfl fun bo au=>Au nS (Au bF (l_k au (Hc OG6_4 fun cl b4 ca=>Aq (y ⟨Bxn (Bxn (Bxn (Bxn l6 k) B) C) b4,rfl,.inl ⟨Rf (Ve h) (by rw[Adz j];simp[g,e,a8,l]),Mp (r:=2) (r':=3) (rs:=[]) (v:=nS) (v':=bF) (vs:=[]) ⟨rfl,rfl,trivial⟩⟩⟩)))))))))))))))))
   have D:=not_eq_f e
   refine l_M (.bool (Ee c)) (gY rfl e) rfl (Aa (gY rfl e) (Iy rfl) (l_v (Bn rfl e (v:=.bool (!(Ee c))) rfl) (Av (.bool (!(Ee c))) (Cn (!(Ee c)) (fun d=>?_) (fun d=>?_)))))
   ·have a9:=not_eq_t d
    refine Ap (gN rfl d) (Ap (gN rfl d) (Ap (Jf rfl rfl rfl) (Ap (Jf rfl rfl rfl) (Ap (Jf rfl rfl rfl) (Ap (gN rfl d) (l_v (Bt rfl d (v:=bT) rfl) (l_k J (Co rfl rfl (w_q rfl rfl fun bp av=>Au nS (Au bF (l_k av (Hc OG6_4 fun cm b5 cb=>Aq (y ⟨Bxn (Bxn (Bxn (Bxn l6 k) B) C) b5,rfl,.inl ⟨Rf (Ve h) (by rw[Adz j];simp[g,e,D,d,a9,l]),Mp (r:=2) (r':=3) (rs:=[]) (v:=nS) (v':=bF) (vs:=[]) ⟨rfl,rfl,trivial⟩⟩⟩)))))))))))))
   have M:=not_eq_f d
   refine l_M bT (gY rfl d) rfl (l_M bT (gY rfl d) rfl (l_M (iV (Dp b)) (gY rfl rfl) rfl (l_M (iV (Dp c)) (gY rfl rfl) rfl (Aa (gY rfl rfl) (Ek rfl rfl) (Aa (gY rfl d) (Bt rfl rfl (v:=.bool ((Dp b)==(Dp c))) rfl) (l_v (Bn rfl d (v:=.bool ((Dp b)==(Dp c))) rfl) (l_k J (Bf (t:=(Dp b)==(Dp c)) rfl (fun u=>?_) (fun u=>?_)))))))))
   ·have L:=Jr u
    refine w_q rfl rfl fun bq aw=>Au nS (Au bF (l_k aw (Hc OG6_4 fun cn b6 cc=>Aq (y ⟨Bxn (Bxn (Bxn (Bxn l6 k) B) C) b6,rfl,.inl ⟨Rf (Ve h) (by rw[Adz j];simp[g,e,D,d,M,u,l,L]),Mp (r:=2) (r':=3) (rs:=[]) (v:=nS) (v':=bF) (vs:=[]) ⟨rfl,rfl,trivial⟩⟩⟩))))
   have L:=Jq u
   refine Al (kk ar ?_)
   refine Ag rfl rfl (l_v (Ah (v:=ov6_4) h6_4) (Av (iV (Dp b)) (Av (iV (Dp c)) ?_)))
   have ba:Val a0 (.agg #[iV (Dp b),iV (Dp c)]) (⟨Dp b,Dp c⟩:Span):=Span.shut (x:=(⟨Dp b,Dp c⟩:Span)) (iC (Dp b)) (iC (Dp c))
   refine l_v (Dn (ns:=[1,1]) (vs:=[(0,(iV (Dp b))),(1,(iV (Dp c)))]) (zc:=Arm) (cs:=[iV (Dp b),iV (Dp c)]) Buj Aak rfl ⟨⟨_,Ab Btz,rfl⟩,⟨_,Ab Btz,rfl⟩,trivial⟩ (EvB.map ⟨⟨rfl,rfl⟩,⟨rfl,rfl⟩,trivial⟩) ((Be (cs:=[iV (Dp b)]) rfl rfl nL).trans ((Be (cs:=[iV (Dp c)]) rfl rfl nL).trans rfl))) (Arv (Bi (α:=Span) (xs:=[(⟨Dp b,Dp c⟩:Span)]) (vs:=[.agg #[iV (Dp b),iV (Dp c)]]) Bug Mx Aak rfl (by decide) (Dk (os:=[.tmp 55]) ⟨rfl,trivial⟩) ⟨ba,trivial⟩ rfl (by decide) fun P ac a6=>?_))
   have a2:Grow a0 48 (.slice (some ⟨P,0,none⟩) 1 1) ([(⟨Dp b,Dp c⟩:Span)]:List Span) [(P,oC ac.toArray 48)]:=Bs a6 rfl (by decide)
   refine Ca a2 fun co U bb=>?_
   replace OG6_4:=Bxl U OG6_4
   refine Arv (Gc (σ:=σ) (gr:=og6_4) (xs:=nv) (ys:=([(⟨Dp b,Dp c⟩:Span)]:List Span)) Bug Bug (Ab Bvw) rfl nL rfl rfl rfl rfl OG6_4 bb (by simp only[lZ2,lZ3,lZ7]at *;omega) fun Y ae a3=>?_)
   refine Au Y (l_k N (Ag rfl rfl (l_v (Br h6_16 rfl (z:=(((i+1):Nat):Int)) wrE) (Av (iV ((i+1):Nat)) (Ac ?_)))))
   refine⟨_,?_,(i+1),(nv++([(⟨Dp b,Dp c⟩:Span)]:List Span)),Y,ae,rfl,rfl,(Bxn (Bxn (Bxn (Bxn l6 k) B) C) U),rfl,h6_14,h6_15,rfl,rfl,(by omega),(Zi p6_1 (Ve h) (by rw[Adz j];simp[g,e,D,d,M,u,l,L])),(by rw[lZ2];simp only[lZ3,lZ7];omega),(Fy rfl a3),trivial⟩
   omega
  replace n:=n.symm;subst n I
  refine Av (.tuple #[.string (bs a.data.toList),.string (bs ([]:List UInt8)),bF]) (l_v (Bp (.string (bs a.data.toList))) (l_v (Bp (.string (bs ([]:List UInt8)))) (l_v (Bp bF) (Au (.string (bs a.data.toList)) (Au (.string (bs ([]:List UInt8))) (Au bF (Arx rfl rfl O fun br ax=>Av (.string (bs a.data.toList)) (Arv (Cm (vs:=[.string (bs a.data.toList)]) (Acy (s:=a.data.toList) (by first|omega|(simp only[lZ6,lZ4]at *;omega))) Bwm rfl rfl ⟨rfl,trivial⟩ fun ci a1 cw ai=>?_)))))))))
  obtain⟨K,H,al⟩:=ai
  replace H:=H.symm;subst H al
  replace OG6_4:=Bxl K OG6_4
  have c7:=Ahk (s:=a.data.toList)
  refine Av (.tuple #[iV (Dp a.data.toList),.bool (Ee a.data.toList)]) (l_v (Bp (iV (Dp a.data.toList))) (l_v (Bp (.bool (Ee a.data.toList))) (Au (iV (Dp a.data.toList)) (Au (.bool (Ee a.data.toList)) (Arx rfl rfl ax fun bt ay=>Av (iV (Dp a.data.toList)) (Au (iV (Dp a.data.toList)) (Au bT (Ary rfl rfl ay fun bu bv az b0=>Av bF (l_k b0 (Cg rfl rfl (Al (kk az ?_))))))))))))
  refine Asb rfl rfl fun bx bz b1 R=>Av (.bool (Ee a.data.toList)) (l_v (Iy rfl) (Av (.bool (!(Ee a.data.toList))) (Cn (!(Ee a.data.toList)) (fun f=>?_) (fun f=>?_))))
  ·have aa:=not_eq_t f
   refine Ap (gN rfl f) (Ap (gN rfl f) (l_v (Bt rfl f (v:=bT) rfl) (Av bT (Ap (gN rfl rfl) (Ap (gN rfl rfl) (Ap (Jf rfl rfl rfl) (Ap (Jf rfl rfl rfl) (Ap (Jf rfl rfl rfl) (Ap (gN rfl rfl) (l_v (Bt rfl rfl (v:=bT) rfl) (l_k R (Co rfl rfl (w_q rfl rfl fun c0 b2=>Au nS (Au bF (l_k b2 (Hc OG6_4 fun cp b7 cd=>Aq (y ⟨Bxn (Bxn (Bxn l6 k) K) b7,rfl,.inl ⟨Rf (Ve h) (by rw[Avb j];simp[g,f,aa,l]),Mp (r:=2) (r':=3) (rs:=[]) (v:=nS) (v':=bF) (vs:=[]) ⟨rfl,rfl,trivial⟩⟩⟩)))))))))))))))))
  have ab:=not_eq_f f
  refine l_M bT (gY rfl f) rfl (Aa (gY rfl f) (Iy rfl) (l_v (Bn rfl f (v:=.bool (!(true))) rfl) (Av (.bool (!(true))) (l_M bF (gY rfl (not_t rfl)) rfl (l_M bF (gY rfl (not_t rfl)) rfl (Ap (gN rfl rfl) (Ap (gN rfl rfl) (Ap (gN rfl rfl) (Aa (gY rfl (not_t rfl)) (Bn rfl rfl (v:=bF) rfl) (l_v (Bn rfl (not_t rfl) (v:=bF) rfl) (l_k R (Cg rfl rfl (Al (kk b1 ?_))))))))))))))
  refine Ag rfl rfl (l_v (Ah (v:=ov6_4) h6_4) (Av (iV (Dp a.data.toList)) (Av (iV (Dp a.data.toList)) ?_)))
  have bc:Val a1 (.agg #[iV (Dp a.data.toList),iV (Dp a.data.toList)]) (⟨Dp a.data.toList,Dp a.data.toList⟩:Span):=Span.shut (x:=(⟨Dp a.data.toList,Dp a.data.toList⟩:Span)) (iC (Dp a.data.toList)) (iC (Dp a.data.toList))
  refine l_v (Dn (ns:=[1,1]) (vs:=[(0,(iV (Dp a.data.toList))),(1,(iV (Dp a.data.toList)))]) (zc:=Arm) (cs:=[iV (Dp a.data.toList),iV (Dp a.data.toList)]) Buj Aak rfl ⟨⟨_,Ab Btz,rfl⟩,⟨_,Ab Btz,rfl⟩,trivial⟩ (EvB.map ⟨⟨rfl,rfl⟩,⟨rfl,rfl⟩,trivial⟩) ((Be (cs:=[iV (Dp a.data.toList)]) rfl rfl nL).trans ((Be (cs:=[iV (Dp a.data.toList)]) rfl rfl nL).trans rfl))) (Arv (Bi (α:=Span) (xs:=[(⟨Dp a.data.toList,Dp a.data.toList⟩:Span)]) (vs:=[.agg #[iV (Dp a.data.toList),iV (Dp a.data.toList)]]) Bug Mx Aak rfl (by decide) (Dk (os:=[.tmp 55]) ⟨rfl,trivial⟩) ⟨bc,trivial⟩ rfl (by decide) fun T ad a7=>?_))
  have a4:Grow a1 48 (.slice (some ⟨T,0,none⟩) 1 1) ([(⟨Dp a.data.toList,Dp a.data.toList⟩:Span)]:List Span) [(T,oC ad.toArray 48)]:=Bs a7 rfl (by decide)
  refine Ca a4 fun cq V bd=>?_
  replace OG6_4:=Bxl V OG6_4
  refine Arv (Gc (σ:=σ) (gr:=og6_4) (xs:=nv) (ys:=([(⟨Dp a.data.toList,Dp a.data.toList⟩:Span)]:List Span)) Bug Bug (Ab Bvw) rfl nL rfl rfl rfl rfl OG6_4 bd (by simp only[lZ2,lZ3,lZ7]at *;omega) fun Z af a5=>?_)
  refine Au Z (l_k N (Ag rfl rfl (l_v (Br h6_16 rfl (z:=(((i+1):Nat):Int)) wrE) (Av (iV ((i+1):Nat)) (Ac ?_)))))
  refine⟨_,?_,(i+1),(nv++([(⟨Dp a.data.toList,Dp a.data.toList⟩:Span)]:List Span)),Z,af,rfl,rfl,(Bxn (Bxn (Bxn l6 k) K) V),rfl,h6_14,h6_15,rfl,rfl,(by omega),(Zi p6_1 (Ve h) (by rw[Avb j];simp[g,f,ab,l])),(by rw[lZ2];simp only[lZ3,lZ7];omega),(Fy rfl a5),trivial⟩
  omega
 have l:=lZ0 g
 refine Bx (kk k3 ?_)
 refine Ai fun c1 b3=>Hc OG6_4 fun cr b8 be=>Ag rfl rfl (l_v (Ah (v:=ov6_4) h6_4) (Au ov6_4 (Au bT (l_k b3 (Aq (y ⟨Bxn l6 b8,rfl,.inr ⟨_,_,(by rw[show i=(wl ws).length by rw[Afs];omega,Sr]at p6_1;exact p6_1),Mp (r:=2) (r':=3) (rs:=[]) (v:=ov6_4) (v':=bT) (vs:=[]) ⟨rfl,rfl,trivial⟩,be⟩⟩))))))
theorem Ban(s a:ByteArray):(a.toList==s.toList)=(s.toList==a.toList):=Bool.beq_comm
theorem Ahy{l:List ByteArray}{vl:Value}{s:ByteArray}(rl:Val ρ vl l):CallsH (CX mn X) 158 #[vl,.string s] ρ σ (rP ρ σ (iV (findI l s))):=by
 refine Bq 19 [4] Bwt rfl fun Q e V=>w_q rfl rfl fun H g=>Au (iV 0) (Ary rfl rfl g fun M N y B=>Av vl ?_)
 have U:=Bxo rl
 refine l_v (Ci (el:=9) Bts rfl rl) (Av (iV 0) (l_k B (Ao (Cc (fun mm ee dd ρ' σ'=>∃(i:Nat),(l.length-i)=mm∧[]=dd∧ρ=ρ'∧σ=σ'∧ee 0=vl∧ee 1=(.string s)∧ee 7=(iV (l.length:Int))∧ee 8=iV i∧(i≤l.length)∧(∀j,j<i→Xi l s j=false)∧True) (m:=_) ⟨0,rfl,rfl,rfl,rfl,rfl,rfl,rfl,rfl,Gn _,fun j h=>absurd h (Sg _),trivial⟩ ?_))))
 rintro m5 e5 _ _ _ ⟨i,rfl,rfl,rfl,rfl,h5_0,h5_1,h5_7,h5_8,p5_0,p5_1,_⟩
 refine w_q rfl rfl fun O C=>l_v (Da h5_8 h5_7) (Asa C fun P D=>Bf (t:=decide ((i:Int)<(l.length:Int))) rfl (fun c=>?_) (fun c=>?_))
 ·have G:=lZ1 c
  refine Al (kk D ?_)
  refine Ai fun R E=>Ao (w_q rfl rfl fun I k=>l_v (Ah (v:=iV i) h5_8) (Au (iV i) (Arx rfl rfl k fun J u=>l_v (Ah (v:=.string s) h5_1) (l_v (Ah (v:=vl) h5_0) (Av (iV i) ?_)))))
  obtain⟨b,d⟩:=Ed (xs:=l) (i:=i) (by omega)
  refine Arw (Ch i Bts ty9 rfl rl (q:=(i:Int)) rfl rfl d) fun W f=>?_
  have T:=At.slen f
  refine l_v (Pk ty9 rfl f) (l_v (Avv (p:=s) (q:=b) rfl rfl) (l_k u (Bf (t:=(s).toList==(b).toList) rfl (fun a=>?_) (fun a=>?_))))
  ·have F:=Jr a
   refine w_q rfl rfl fun K w=>Av (iV i) (Au (iV i) (l_k w (Aq (e (rT (iV i) ?_)))))
   have hi:=Fh (n:=l.length) p5_1 (by omega) (show Xi l s i=true by simp only[Xi,d];exact(Ban s b).trans a)
   simp only[findI,hi]
  have F:=Jq a
  refine Al (kk E ?_)
  refine Ag rfl rfl (l_v (Br h5_8 rfl (z:=(((i+1):Nat):Int)) wrE) (Av (iV ((i+1):Nat)) (Ac ?_)))
  refine⟨_,?_,(i+1),rfl,rfl,rfl,rfl,h5_0,h5_1,h5_7,rfl,(by omega),(Eg p5_1 (by simp only[Xi,d];exact(Ban s b).trans a)),trivial⟩
  omega
 have G:=lZ0 c
 refine Bx (kk y ?_)
 refine w_q rfl rfl fun L x=>Au (iV (-1)) (l_k x (Aq (e (rT (iV (-1)) ?_))))
 have hn:=Ep (n:=l.length) fun j hj=>p5_1 j (by omega)
 simp only[findI,hn]
theorem Bkc{l:List ByteArray}{vl:Value}{s:ByteArray}(rl:Val ρ vl l):CallsH (CX mn X) 143 #[vl,.string s] ρ σ (rP ρ σ (.bool (decide (findI l s≥0)))):=by
 refine Bq 9 [4] Tryz.func143 rfl fun Q a f=>w_q rfl rfl fun d b=>Au bF (Arx rfl rfl b fun e c=>Av vl (Av (.string s) (Arv (Bw (Ahy rl) Bwt ?_))))
 refine l_v (Uy rfl rfl) (Au (.bool (decide ((findI l s)≥0))) (l_k c (Aq (a (rT (.bool (decide ((findI l s)≥0))) ?_)))))
 rfl
theorem Bkq{ws:List ByteArray}{vw:Value}(hg:GlobE ρ)(rw_:Val ρ vw ws)(hn:ws.length≤60001)(hw:∀w∈ws,w.data.toList.length≤60000):CallsH (CX mn X) 144 #[vw] ρ σ (fun w ρ' σ'=>Ro.le ρ ρ'∧σ'=σ∧((Gm Pb (wl ws)=none∧w = .tuple #[nS,bF])∨∃(r:List Int) (v:Value),Gm Pb (wl ws)=some r∧w = .tuple #[v,bT]∧Val ρ' v r)):=by
 refine Bq 25 [2,3] Tryz.func144 rfl fun Q f aa=>w_q rfl rfl fun K1 E=>Au nS (Au bF (Arx rfl rfl E fun K2 K=>Au nS (Ary rfl rfl K fun K3 K4 N O=>Av vw ?_)))
 have g5:=Bxo rw_
 refine l_v (Ci (el:=9) Bts rfl rw_) (Av (iV 0) (l_k O (Ao (Cc (fun mm ee dd ρ' σ'=>∃(i:Nat) (nv:List Int) (ov6_4:Value) (og6_4:Own),(ws.length-i)=mm∧[]=dd∧Ro.le ρ ρ'∧(og6_4++σ)=σ'∧ee 8=vw∧ee 9=(iV (ws.length:Int))∧ee 4=ov6_4∧ee 10=iV i∧(i≤ws.length)∧(Gm Pb ((wl ws).take i)=some nv)∧(nv.length≤i)∧Grow ρ' 75 ov6_4 nv og6_4∧True) (m:=_) ⟨0,[],nS,[],rfl,rfl,Bxm,rfl,rfl,rfl,rfl,rfl,Gn _,rfl,Jd _,Hm,trivial⟩ ?_))))
 rintro m6 e6 _ ρ6 _ ⟨i,nv,ov6_4,og6_4,rfl,rfl,l6,rfl,h6_8,h6_9,h6_4,h6_10,p6_0,p6_1,p6_2,OG6_4,_⟩
 replace rw_:=Val.mono l6 rw_
 replace hg:=GlobE.mono l6 hg
 refine w_q rfl rfl fun K7 P=>l_v (Da h6_10 h6_9) (Asa P fun K8 R=>Bf (t:=decide ((i:Int)<(ws.length:Int))) rfl (fun d=>?_) (fun d=>?_))
 ·have V:=lZ1 d
  refine Al (kk R ?_)
  refine Ai fun a0 F=>Ao (w_q rfl rfl fun a1 G=>?_)
  obtain⟨a,b⟩:=Ed (xs:=ws) (i:=i) (by omega)
  have ab:=hw _ (Hd b)
  refine Arw (Ch i Bts ty9 h6_8 rw_ (q:=(i:Int)) h6_10 rfl b) fun ae k=>?_
  have a8:a.data.toList.length<2^60:=At.slen k
  refine l_v (Pk ty9 rfl k) (Au (.string a) (Arx rfl rfl G fun a2 H=>?_))
  obtain⟨ad,a7,D⟩:=hg.views
  have W:=Bdu D
  refine l_v (Jg (l:=0) (h:=3) Bwh ⟨_,Ab Bul,rfl⟩ rfl (.inl ⟨rfl,rfl⟩) (.inl ⟨rfl,rfl⟩) (by decide) (by decide) (by decide)) (Av (.string a) ?_)
  have a9:=Bnb (x:=a.data.toList)
  refine Arv (Bw (Ahy (s:=bs a.data.toList) W) Bwt ?_)
  refine Au (iV (findI [bs Qx,bs Mq,bs wNo] (bs a.data.toList))) (Ary rfl rfl H fun a3 a4 I J=>Av (iV (findI [bs Qx,bs Mq,bs wNo] (bs a.data.toList))) (l_v (Da rfl rfl) (l_k J (Bf (t:=decide ((findI [bs Qx,bs Mq,bs wNo] (bs a.data.toList))<0)) rfl (fun c=>?_) (fun c=>?_)))))
  ·have e:=lZ1 c
   refine w_q rfl rfl fun a5 L=>Au nS (Au bF (l_k L (Hc OG6_4 fun af T ac=>Aq (f ⟨Bxn l6 T,rfl,.inl ⟨Rf (Ve b) (Bnc (x:=a.data.toList) e),Mp (r:=2) (r':=3) (rs:=[]) (v:=nS) (v':=bF) (vs:=[]) ⟨rfl,rfl,trivial⟩⟩⟩))))
  have e:=lZ0 c
  refine Al (kk I ?_)
  refine Ag rfl rfl (l_v (Ah (v:=ov6_4) h6_4) (Av (iV (findI [bs Qx,bs Mq,bs wNo] (bs a.data.toList))) (Arv (Bi (α:=Int) (xs:=[findI [bs Qx,bs Mq,bs wNo] (bs a.data.toList)]) (vs:=[iV (findI [bs Qx,bs Mq,bs wNo] (bs a.data.toList))]) Bui Pi Acl rfl (by decide) (Dk (os:=[.tmp 20]) ⟨rfl,trivial⟩) ⟨Cv.2 ⟨rfl,by constructor<;>omega⟩,trivial⟩ rfl (by decide) fun g B y=>?_))))
  have p:Grow ρ6 75 (.slice (some ⟨g,0,none⟩) 1 1) ([findI [bs Qx,bs Mq,bs wNo] (bs a.data.toList)]:List Int) [(g,oC B.toArray 75)]:=Bs y rfl (by decide)
  refine Ca p fun ag j Y=>?_
  replace OG6_4:=Bxl j OG6_4
  refine Arv (Gc (σ:=σ) (gr:=og6_4) (xs:=nv) (ys:=([findI [bs Qx,bs Mq,bs wNo] (bs a.data.toList)]:List Int)) Bui Bui (Ab Bxb) rfl nL rfl rfl rfl rfl OG6_4 Y (by simp only[lZ2,lZ3,lZ7]at *;omega) fun n C u=>?_)
  refine Au n (l_k F (Ag rfl rfl (l_v (Br h6_10 rfl (z:=(((i+1):Nat):Int)) wrE) (Av (iV ((i+1):Nat)) (Ac ?_)))))
  refine⟨_,?_,(i+1),(nv++([findI [bs Qx,bs Mq,bs wNo] (bs a.data.toList)]:List Int)),n,C,rfl,rfl,(Bxn l6 j),rfl,h6_8,h6_9,rfl,rfl,(by omega),(Zi p6_1 (Ve b) (Bnd (x:=a.data.toList) e)),(by rw[lZ2];simp only[lZ3,lZ7];omega),(Fy rfl u),trivial⟩
  omega
 have V:=lZ0 d
 refine Bx (kk N ?_)
 refine Ai fun a6 M=>Hc OG6_4 fun ah U Z=>Ag rfl rfl (l_v (Ah (v:=ov6_4) h6_4) (Au ov6_4 (Au bT (l_k M (Aq (f ⟨Bxn l6 U,rfl,.inr ⟨_,_,(by rw[show i=(wl ws).length by rw[Afs];omega,Sr]at p6_1;exact p6_1),Mp (r:=2) (r':=3) (rs:=[]) (v:=ov6_4) (v':=bT) (vs:=[]) ⟨rfl,rfl,trivial⟩,Z⟩⟩))))))
end
section
open Go
def Axg:TypeDesc→Bool
 | .interface _=>true
 | _=>false
def Bti:TypeDesc→Bool
 | .pointer _=>true
 | _=>false
section
variable{P:Program}{ρ:Ro}{e:Env}{ty t t':TypeId}{x y:Operand}{v:Value}
theorem Ge{d:TypeDesc}(hT:P.underlying t=some d)(hd:Axg d=false)(hx:Af e x=v):Yld P ρ e (.makeInterface t x) ty (.iface t v) :=
 Mt (s:=Instr.makeInterface t (Af e x)) (fun _ _ _ _=>rfl) fun ρ' σ _=>by
 rw[hx]
 show wpS P ρ' ((underlying t).bind _) σ _
 rw[Ad]
 refine Az hT ?_
 cases d<;>first|exact⟨rfl,rfl⟩|cases hd
theorem To{d:TypeDesc}(hT:P.underlying t'=some d)(hd:Axg d=false)(hx:Af e x = .iface t' v):Yld P ρ e (.typeAssert x t t' true) ty (.tuple #[v,.bool true]) :=
 Mt (s:=Instr.typeAssert (Af e x) t t' true) (fun _ _ _ _=>rfl) fun ρ' σ _=>by
 rw[hx]
 show wpS P ρ' ((underlying t').bind _) σ _
 rw[Ad]
 refine Az hT ?_
 cases d<;>first|(simp only[if_true];exact⟨rfl,rfl⟩)|cases hd
theorem Eo{d:TypeDesc}{u:TypeId}{z:Value}(hT:P.underlying t'=some d)(hd:Axg d=false)(hz:Fw P t' z)(hu:¬u=t')(hx:Af e x = .iface u v):Yld P ρ e (.typeAssert x t t' true) ty (.tuple #[z,.bool false]) :=
 Mt (s:=Instr.typeAssert (Af e x) t t' true) (fun _ _ _ _=>rfl) fun ρ' σ _=>by
 rw[hx]
 show wpS P ρ' ((underlying t').bind _) σ _
 rw[Ad]
 refine Az hT ?_
 cases d<;>first|(simp only[hu,if_false,if_true];show wpS P ρ' ((zeroValue t').bind _) σ _;rw[Ad];exact Jz hz ⟨rfl,rfl⟩)|cases hd
theorem Ig{σ:Own}{n:Nat}{name:String}{i:TypeInfo}{m:Method}{f:FuncId}{d:TypeDesc}{Q:FuncId×Value→Own→Prop}(hi:P.info? t=some i)(hm:i.methods.find? (·.name==name)=some m)(hp:m.path.toList=[])(hf:m.func=some (f,false))(hT:P.underlying t=some d)(hd:Bti d=false)(h:Q (f,v) σ):wpS P ρ (method (n+1) t v name) σ Q:=by
 show wpS P ρ ((typeInfo t).bind _) σ Q
 rw[Ad]
 refine Gj hi ?_
 simp only[hm]
 rw[hp]
 show wpS P ρ ((Sem.pure (t,Place.val v)).bind _) σ Q
 rw[Ad]
 show wpS P ρ (match m.func with|none=>_|some (f,pointerReceiver)=>_) σ Q
 rw[hf]
 show wpS P ρ ((receiverAt t (.val v) false _).bind _) σ Q
 rw[Ad]
 show wpS P ρ ((underlying t).bind _) σ _
 rw[Ad]
 refine Az hT ?_
 cases d<;>first|exact h|cases hd
end
section
variable{C:Ctx}{e:Env}{ds:List Deferred}{ρ:Ro}{σ:Own}{K:Value→List Deferred→Ro→Own→Prop}{rd:Option Nat}{dd:Option Tmp}
variable{ty:TypeId}{pos:String}{af:Array Edge}{g:Option (Nat×Bool)}{x:Operand}{t:TypeId}{v v':Value}
theorem Agl{name:String}{args:List Operand}{tys:Array TypeId}{vs:List Value}(hx:Af e x = .iface t v)(hv:EvL e args vs):execOp (Af e) ⟨dd,.call ⟨.invoke x name,args.toArray,tys⟩,ty,pos,af,g⟩=callMethod (.iface t v) name vs.toArray:=by
 have hv':=hv.map
 show invoke (.fn (.method name) #[]) (#[Af e x]++args.toArray.map (Af e))=_
 rw[hv',hx]
 have a:(#[Value.iface t v]++vs.toArray)=(Value.iface t v::vs).toArray:=by simp
 rw[a]
 show callMethod (.iface t v) name ((Value.iface t v::vs).toArray.extract 1 (Value.iface t v::vs).toArray.size)=_
 congr 1
 simp
theorem Bjc{name:String}{f:FuncId}{fn:Func}{args:List Operand}{tys:Array TypeId}{vs:List Value}{R:Value→Ro→Own→Prop}
  (hm:∀Q:FuncId×Value→Own→Prop,Q (f,v') σ→wpS C.P ρ (method (C.P.types.size+Made.depth) t v name) σ Q) (hc:CallsH C f (v'::vs).toArray ρ σ R) (hf:C.P.funcs[f]?=some fn) (hn:(fn.name == "runtime.NumGoroutine")=false) (hb:fn.body.isNone=false)
  (hx:Af e x = .iface t v) (hv:EvL e args vs) (h:∀v ρ' σ',R v ρ' σ'→K v ds ρ' σ'):wpS C.P ρ (execOp (Af e) ⟨dd,.call ⟨.invoke x name,args.toArray,tys⟩,ty,pos,af,g⟩) σ (NextH C K rd ds ρ):=by
 rw[Agl hx hv]
 show wpS C.P ρ ((program).bind _) σ _
 rw[Ad]
 show wpS C.P ρ ((method (C.P.types.size+Made.depth) t v name).bind _) σ _
 rw[Ad]
 refine hm _ ?_
 have a:(#[v']++vs.toArray)=(v'::vs).toArray:=by simp
 show wpS C.P ρ (callFunc f (#[v']++vs.toArray)) σ _
 rw[a]
 exact Mr hf hn hb (hc.mono h)
end
end
section
open Go
theorem Afc:∀{s acc:List UInt8},(Nr acc s).length≤s.length+(if acc=[] then 0 else 1)∧∀w∈Nr acc s,w.length≤acc.length+s.length
 | [],acc=>by
  show (if acc=[] then [] else [acc]).length≤_∧∀w∈(if acc=[] then [] else [acc]),_
  by_cases h:acc=[]
  ·rw[if_pos h];exact⟨by simp,fun w hw=>by cases hw⟩
  ·rw[if_neg h,if_neg h];exact⟨by simp,fun w hw=>by rw[Qp.1 hw];simp⟩
 | x::s,acc=>by
  show (if x=10 then acc::Nr [] s else Nr (acc++[x]) s).length≤_∧∀w∈(if x=10 then acc::Nr [] s else Nr (acc++[x]) s),_
  by_cases h:x=10
  ·rw[if_pos h]
   obtain⟨h1,h2⟩:=Afc (s:=s) (acc:=[])
   rw[if_pos rfl]at h1
   refine⟨by rw[lZ3,lZ3];omega,fun w hw=>?_⟩
   rcases Gw.1 hw with rfl|hw
   ·omega
   ·have:=h2 w hw;simp only[lZ7,lZ3]at *;omega
  ·rw[if_neg h]
   obtain⟨h1,h2⟩:=Afc (s:=s) (acc:=acc++[x])
   rw[if_neg (by simp)]at h1
   refine⟨by rw[lZ3];omega,fun w hw=>?_⟩
   have:=h2 w hw
   simp only[lZ2,lZ3,lZ7]at *;omega
theorem Zt:∀{s acc:List UInt8},(Ma 32 acc s).length≤s.length+1∧∀w∈Ma 32 acc s,w.length≤acc.length+s.length
 | [],acc=>⟨by simp[Ma],fun w hw=>by rw[Qp.1 (show w∈[acc] from hw)];simp⟩
 | x::s,acc=>by
  show (if x=32 then acc::Ma 32 [] s else Ma 32 (acc++[x]) s).length≤_∧∀w∈(if x=32 then acc::Ma 32 [] s else Ma 32 (acc++[x]) s),_
  by_cases h:x=32
  ·rw[if_pos h]
   obtain⟨h1,h2⟩:=Zt (s:=s) (acc:=[])
   refine⟨by rw[lZ3,lZ3];omega,fun w hw=>?_⟩
   rcases Gw.1 hw with rfl|hw
   ·omega
   ·have:=h2 w hw;simp only[lZ7,lZ3]at *;omega
  ·rw[if_neg h]
   obtain⟨h1,h2⟩:=Zt (s:=s) (acc:=acc++[x])
   refine⟨by rw[lZ3];omega,fun w hw=>?_⟩
   have:=h2 w hw
   simp only[lZ2,lZ3,lZ7]at *;omega
theorem Blv{t:List UInt8}:(Lz t).length≤t.length:=by have:=(Afc (s:=t) (acc:=[])).1;rw[if_pos rfl]at this;exact this
theorem Bik{i:Nat}{p:PSt}{s:List UInt8}(h:Nz s=true):Mm i p s = .inl 3:=by
 unfold Mm
 unfold Nz at h
 cases hs:Es s with
 | nil=>rfl
 | cons w f=>rw[hs]at h;simp only;rw[if_pos h]
theorem Avf{i:Nat}{p:PSt}{s u:List UInt8}{f:List (List UInt8)}(h:Nz s=false)(hs:Es s=u::f)(ho:Nu i p.last (Pa u)=false):Mm i p s = .inl 3:=by
 unfold Mm
 unfold Nz at h
 rw[hs]at h ⊢
 simp only
 rw[if_neg (by rw[h];simp),if_neg (by rw[ho];simp)]
theorem Apf{i:Nat}{p:PSt}{s u:List UInt8}{f:List (List UInt8)}(h:Nz s=false)(hs:Es s=u::f)(ho:Nu i p.last (Pa u)=true):Mm i p s=(match Aau p u f with | .inl e=>.inl e | .inr q=>.inr {q with last:=Pa u}):=by
 unfold Mm
 unfold Nz at h
 rw[hs]at h ⊢
 simp only
 rw[if_neg (by rw[h];simp),if_pos ho]
 cases Aau p u f<;>rfl
theorem Bmq{i:Nat}{p:PSt}{s u:List UInt8}{f:List (List UInt8)}{e:Int}(h:Nz s=false)(hs:Es s=u::f)(ho:Nu i p.last (Pa u)=true)(ht:Aau p u f = .inl e):Mm i p s = .inl e:=by
 rw[Apf h hs ho,ht]
theorem Bsp:RdB p0 0:=⟨Jd _,Jd _,Jd _,Jd _,Jd _,Jd _⟩
theorem Bid{p:PSt}{n k:Nat}(h:RdB p n)(hk:n≤k):RdB p k:=by
 obtain⟨a,b,c,d,e,f⟩:=h
 exact⟨by omega,by omega,by omega,by omega,by omega,by omega⟩
theorem Axy{t:List UInt8}(h:((t.length:Nat):Int)>60000):Cr t=(emL,emM,0,2):=by unfold Cr;rw[if_pos h]
theorem Axv{t:List UInt8}{i:Nat}{p:PSt}{s:List UInt8}{f:Int}(hn:¬((t.length:Nat):Int)>60000)(h:Pz 0 p0 ((Lz t).take i) = .inr p)(hs:(Lz t)[i]?=some s)(hq:Mm i p s = .inl f):Cr t=(emL,emM,(i:Int)+1,f):=by
 unfold Cr;rw[if_neg hn,Bif h hs hq]
theorem Bmi{t:List UInt8}{i:Nat}{p:PSt}(h:Pz 0 p0 ((Lz t).take i) = .inr p)(hi:i=(bw (Lz t)).length):Pz 0 p0 (Lz t) = .inr p:=by
 rw[hi,show (bw (Lz t)).length=(Lz t).length by simp[bw],Sr]at h;exact h
theorem Axw{t:List UInt8}{p:PSt}(hn:¬((t.length:Nat):Int)>60000)(h:Pz 0 p0 (Lz t) = .inr p)(hl:p.last<3):Cr t=(emL,emM,0,3):=by
 unfold Cr;rw[if_neg hn,h];simp only;rw[if_pos hl]
theorem Bdc{t:List UInt8}{p:PSt}(hn:¬((t.length:Nat):Int)>60000)(h:Pz 0 p0 (Lz t) = .inr p)(hl:¬p.last<3)(hf:Gh p.l≠0):Cr t=(emL,emM,0,Gh p.l):=by
 unfold Cr;rw[if_neg hn,h];simp only;rw[if_neg hl,Ry hf,if_neg hf]
theorem Arg{t:List UInt8}{p:PSt}(hn:¬((t.length:Nat):Int)>60000)(h:Pz 0 p0 (Lz t) = .inr p)(hl:¬p.last<3)(hf:Gh p.l=0)(hg:Cf p.m≠0):Cr t=(emL,emM,0,Cf p.m):=by
 unfold Cr;rw[if_neg hn,h];simp only;rw[if_neg hl,Gr hf,if_neg hg]
theorem Axx{t:List UInt8}{p:PSt}(hn:¬((t.length:Nat):Int)>60000)(h:Pz 0 p0 (Lz t) = .inr p)(hl:¬p.last<3)(hf:Gh p.l=0)(hg:Cf p.m=0):Cr t=(p.l,p.m,0,0):=by
 unfold Cr;rw[if_neg hn,h];simp only;rw[if_neg hl,Gr hf,if_pos hg]
/-- What a line says. -/
inductive Ent where
 | lab (n:Int)
 | kind (s:ByteArray)
 | test (t:FTest)
 | go
 | name (mark:Bool) (s:ByteArray)
 | field (x:FField) (h:ByteArray)
 | sale (n:Int) (l:List ByteArray)
def Ez:Ent→Int
 | .lab _=>0
 | .kind _=>1
 | .test _=>2
 | .go=>3
 | .name mark _=>if mark=true then 5 else 4
 | .field _ _=>6
 | .sale _ _=>7
def Fv(p:PSt):Ent→Sum Int PSt
 | .lab n=>.inr ⟨⟨p.l.kinds,n,p.l.tests⟩,p.m,p.last⟩
 | .kind s=>.inr ⟨⟨p.l.kinds++[s],p.l.most,p.l.tests⟩,p.m,p.last⟩
 | .test t=>.inr ⟨⟨p.l.kinds,p.l.most,p.l.tests++[t]⟩,p.m,p.last⟩
 | .go=>.inr p
 | .name mark s=>if mark=true then .inr ⟨p.l,⟨p.m.houses,p.m.marks++[s],p.m.fields,p.m.sales⟩,p.last⟩ else .inr ⟨p.l,⟨p.m.houses++[s],p.m.marks,p.m.fields,p.m.sales⟩,p.last⟩
 | .field x h=>match Iu p.m h.data.toList with
  | some k=>.inr ⟨p.l,⟨p.m.houses,p.m.marks,p.m.fields++[⟨x.name,k,x.grows,x.marks⟩],p.m.sales⟩,p.last⟩
  | none=>.inl 6
 | .sale n l=>match Gm (Iu p.m) (wl l) with
  | some x=>.inr ⟨p.l,⟨p.m.houses,p.m.marks,p.m.fields,p.m.sales++[⟨n,x⟩]⟩,p.last⟩
  | none=>.inl 6
def Oq(u:List UInt8)(ws:List ByteArray):Option Ent :=
 if u=Ea then (if ws.length=0 then some .go else none)
 else if u=Oj∨u=Nq then (match ws[0]?,Gm Pb (wl (ws.drop 1)) with|some a,some x=>some (.test ⟨a,x,u==Nq⟩)|_,_=>none)
 else if u=Ib then (if ws.length≤2 then none else match ws[0]?,ws[1]?,Gm Mi (wl (ws.drop 2)) with
  | some a,some b,some r=>(match r[0]? with|some x=>some (.field ⟨a,0,x,r.drop 1⟩ b)|none=>none)
  | _,_,_=>none)
 else match ws[0]? with
  | none=>none
  | some a=>if u=Pc∧Ee a.data.toList=true then some (.sale (Dp a.data.toList) (ws.drop 1))
   else if 1<ws.length then none
   else if u=Ub∧Ee a.data.toList=true then some (.lab (Dp a.data.toList))
   else if u=Pp then some (.kind a)
   else if u=Ic∨u=Lp then some (.name (u==Lp) a) else none
def Abc(s:List UInt8):Option Ent:=if Nz s=true then none else match Es s with
 | []=>none
 | u::f=>Oq u (bw f)
theorem ws0{ws:List ByteArray}(h:ws.length=0):ws=[]:=Aqu h
theorem Aur{s:List UInt8}(h:¬Ee s=true):Yv s=none:=Ard (by simpa using h)
theorem Bfg{p:PSt}{n:Nat}{u:List UInt8}{ws:List ByteArray}(h0:0≤p.last)(h:Oq u ws=none)(ho:Nu n p.last (Pa u)=true):Aau p u (wl ws) = .inl 3:=by
 unfold Oq at h
 unfold Aau
 split at h
 ·next hu =>
  subst hu
  rw[if_neg (by decide),if_neg (by decide),if_pos rfl]
  split at h
  ·cases h
  ·next hl=>rw[if_neg];intro hw;exact hl (by have:=congrArg List.length hw;simpa[wl]using this)
 ·next hu =>
  split at h
  ·next hv =>
   rw[if_neg (by rcases hv with rfl|rfl<;>decide),if_pos hv]
   match ws,h with
   | [],_=>rfl
   | a::r,h =>
    show (match Gm Pb (wl r) with|some x=>_|none=>_)=_
    cases hr:Gm Pb (wl r) with
    | none=>rfl
    | some x=>simp[hr]at h
  ·next hv =>
   split at h
   ·next hf =>
    subst hf
    rw[if_neg (by decide),if_neg (by decide),if_neg (by decide),if_pos rfl]
    match ws,h with
    | [],_=>rfl
    | [a],_=>rfl
    | [a,b],_=>rfl
    | a::b::g::r,h =>
     rw[if_neg (by simp only[lZ3];omega)]at h
     simp only[Aes,Adm,Bcp,Afb]at h
     show (match Mi g.data.toList,Gm Mi (wl r) with|some x,some y=>_|_,_=>_)=_
     have c:Gm Mi (wl (g::r))=_:=Amz (f:=Mi) (g:=g.data.toList) (v:=wl r)
     rw[c]at h
     cases hg:Mi g.data.toList with
     | none=>rfl
     | some x =>
      cases hr:Gm Mi (wl r) with
      | none=>rfl
      | some y=>simp[hg,hr]at h
   ·next hf =>
    rw[if_neg hv,if_neg hu,if_neg hf]
    match ws,h with
    | [],_ =>
     split
     ·rfl
     ·split
      ·rfl
      ·split
       ·rfl
       ·split<;>rfl
    | a::r,h =>
     simp only[Aes,lZ3]at h
     split at h
     ·cases h
     ·next hs =>
      split
      ·next hl =>
       subst hl
       show Bod p (a.data.toList::wl r)=_
       match r,h with
       | [],h =>
        rw[if_neg (by simp)]at h
        show (match Yv a.data.toList with|some n=>_|none=>_)=_
        by_cases hn:Ee a.data.toList=true
        ·rw[if_pos ⟨rfl,hn⟩]at h;cases h
        ·rw[Aur hn]
       | b::r,_=>rfl
      ·next hl =>
       split
       ·next hsa =>
        show (match Yv a.data.toList with|some n=>_|none=>_)=_
        by_cases hn:Ee a.data.toList=true
        ·exact absurd ⟨hsa,hn⟩ hs
        ·rw[Aur hn]
       ·next hsa =>
        match r,h with
        | b::r,_ =>
         split
         ·rfl
         ·split<;>rfl
        | [],h =>
         rw[if_neg (by simp),if_neg (fun hh=>hl hh.1)]at h
         split at h
         ·cases h
         ·next hk =>
          rw[if_neg hk]
          split at h
          ·cases h
          ·next hm =>
           exfalso
           have hp:Pa u = -1:=by
            unfold Pa
            rw[if_neg (fun e=>hv (.inr e)),if_neg hl,if_neg hk,if_neg (fun e=>hv (.inl e)),if_neg hu,if_neg (fun e=>hm (.inl e)),if_neg (fun e=>hm (.inr e)),if_neg hf,if_neg hsa]
           rw[hp]at ho
           unfold Nu at ho
           simp only[Rb,decide_eq_true_eq]at ho
           omega
theorem Bfh{p:PSt}{u:List UInt8}{ws:List ByteArray}{e:Ent}(h:Oq u ws=some e):Pa u=Ez e∧Aau p u (wl ws)=Fv p e:=by
 unfold Oq at h
 unfold Aau
 split at h
 ·next hu =>
  subst hu
  split at h
  ·next hl =>
   cases h
   rw[ws0 hl]
   exact⟨by decide,rfl⟩
  ·cases h
 ·next hu =>
  split at h
  ·next hv =>
   have hp:Pa u=2:=by rcases hv with rfl|rfl<;>decide
   rw[hp,if_neg (by rcases hv with rfl|rfl<;>decide),if_pos hv]
   match ws,h with
   | [],h=>cases h
   | a::r,h =>
    simp only[Aes,Bcp,Afb]at h
    cases hr:Gm Pb (wl r) with
    | none=>rw[hr]at h;cases h
    | some x =>
     rw[hr]at h
     cases h
     refine⟨rfl,?_⟩
     show (match Gm Pb (wl r) with|some x=>_|none=>_)=_
     rw[hr];rfl
  ·next hv =>
   split at h
   ·next hf =>
    subst hf
    rw[if_neg (by decide),if_neg (by decide),if_neg (by decide),if_pos rfl]
    match ws,h with
    | [],h=>cases h
    | [a],h=>cases h
    | [a,b],h=>cases h
    | a::b::g::r,h =>
     rw[if_neg (by simp only[lZ3];omega)]at h
     simp only[Aes,Adm,Bcp,Afb]at h
     show _∧(match Mi g.data.toList,Gm Mi (wl r) with|some x,some y=>_|_,_=>_)=_
     have c:Gm Mi (wl (g::r))=_:=Amz (f:=Mi) (g:=g.data.toList) (v:=wl r)
     rw[c]at h
     cases hg:Mi g.data.toList with
     | none=>rw[hg]at h;cases h
     | some x =>
      cases hr:Gm Mi (wl r) with
      | none=>rw[hg,hr]at h;cases h
      | some y =>
       rw[hg,hr]at h
       cases h
       exact⟨(show Pa Ib=6 by decide),rfl⟩
   ·next hf =>
    rw[if_neg hv,if_neg hu,if_neg hf]
    match ws,h with
    | [],h=>cases h
    | a::r,h =>
     simp only[Aes,lZ3,Bcp,Afb]at h
     split at h
     ·next hs =>
      cases h
      obtain⟨rfl,hn⟩:=hs
      rw[if_neg (by decide),if_pos rfl]
      refine⟨(show Pa Pc=7 by decide),?_⟩
      show (match Yv a.data.toList with|some n=>_|none=>_)=_
      rw[Afi hn]
      rfl
     ·next hs =>
      match r,h with
      | b::r,h=>rw[if_pos (by simp only[lZ3];omega)]at h;cases h
      | [],h =>
       rw[if_neg (by simp)]at h
       split at h
       ·next hl =>
        cases h
        obtain⟨rfl,hn⟩:=hl
        rw[if_pos rfl]
        refine⟨(show Pa Ub=0 by decide),?_⟩
        show (match Yv a.data.toList with|some n=>_|none=>_)=_
        rw[Afi hn];rfl
       ·next hl =>
        split at h
        ·next hk=>cases h;subst hk;exact⟨(show Pa Pp=1 by decide),rfl⟩
        ·next hk =>
         split at h
         ·next hm =>
          cases h
          rcases hm with rfl|rfl
          ·exact⟨(show Pa Ic=(if (Ic==Lp)=true then 5 else 4) by decide),rfl⟩
          ·exact⟨(show Pa Lp=(if (Lp==Lp)=true then 5 else 4) by decide),rfl⟩
         ·cases h
theorem Ape{i:Nat}{p:PSt}{s:List UInt8}(h0:0≤p.last)(h:Abc s=none):Mm i p s = .inl 3:=by
 unfold Abc at h
 split at h
 ·next he=>exact Bik he
 ·next he =>
  replace he:Nz s=false:=by simpa using he
  cases hs:Es s with
  | nil=>exact absurd hs Wi
  | cons u f =>
   rw[hs]at h
   cases ho:Nu i p.last (Pa u) with
   | false=>exact Avf he hs ho
   | true=>exact Bmq he hs ho (by have:=Bfg h0 h ho;rw[Avp]at this;exact this)
theorem Alb{i:Nat}{p:PSt}{s:List UInt8}{e:Ent}(h:Abc s=some e):Mm i p s=if Nu i p.last (Ez e)=true then (match Fv p e with | .inl f=>.inl f | .inr q=>.inr ⟨q.l,q.m,Ez e⟩) else .inl 3:=by
 unfold Abc at h
 split at h
 ·cases h
 ·next he =>
  replace he:Nz s=false:=by simpa using he
  cases hs:Es s with
  | nil=>exact absurd hs Wi
  | cons u f =>
   rw[hs]at h
   obtain⟨b,a⟩:=Bfh (p:=p) h
   rw[Avp]at a
   rw[←b,←a]
   cases ho:Nu i p.last (Pa u) with
   | false=>rw[if_neg (by simp)];exact Avf he hs ho
   | true=>rw[if_pos rfl];exact Apf he hs ho
structure ELab where
 most:Int
deriving DecidableEq
instance:Dat ELab:=.iso fun x=>x.most
theorem ELab.f_most:Fld ELab Int 0 ELab.most:=⟨fun ρ cs x=>(Fld.self:Fld Int Int 0 _).at_ ρ cs x.most⟩
theorem ELab.shut{ρ:Ro}{x:ELab}(h0:I64 x.most):Val ρ (.agg #[.int .i64 x.most]) x:=⟨[.int .i64 x.most],⟨rfl,h0⟩,rfl⟩
structure EKind where
 name:ByteArray
deriving DecidableEq
instance:Dat EKind:=.iso fun x=>x.name
theorem EKind.f_name:Fld EKind ByteArray 0 EKind.name:=⟨fun ρ cs x=>(Fld.self:Fld ByteArray ByteArray 0 _).at_ ρ cs x.name⟩
theorem EKind.shut{ρ:Ro}{x:EKind}(h0:x.name.size<2^60):Val ρ (.agg #[.string x.name]) x:=⟨[.string x.name],⟨rfl,h0⟩,rfl⟩
structure ETest where
 t:FTest
deriving DecidableEq
instance:Dat ETest:=.iso fun x=>x.t
theorem ETest.f_t:Fld ETest FTest 0 ETest.t:=⟨fun ρ cs x=>(Fld.self:Fld FTest FTest 0 _).at_ ρ cs x.t⟩
theorem ETest.shut{ρ:Ro}{x:ETest}{c0:Value}(h0:x.t.name.size<2^60)(h1:Val ρ c0 x.t.sees):Val ρ (.agg #[.string x.t.name,c0,.bool x.t.errs]) x:=⟨[.string x.t.name,c0,.bool x.t.errs],⟨[.string x.t.name],[c0]++[.bool x.t.errs],rfl,⟨rfl,h0⟩,⟨[c0],[.bool x.t.errs],rfl,⟨c0,rfl,Cs.1 h1⟩,rfl⟩⟩,rfl⟩
structure EName where
 mark:Bool
 name:ByteArray
deriving DecidableEq
instance:Dat EName:=.iso fun x=>(x.mark,x.name)
theorem EName.f_mark:Fld EName Bool 0 EName.mark:=⟨fun ρ cs x=>(Fld.fst:Fld ((Bool)×(ByteArray)) Bool 0 _).at_ ρ cs (x.mark,x.name)⟩
theorem EName.f_name:Fld EName ByteArray 1 EName.name:=⟨fun ρ cs x=>((.snd Fld.self):Fld ((Bool)×(ByteArray)) ByteArray 1 _).at_ ρ cs (x.mark,x.name)⟩
theorem EName.shut{ρ:Ro}{x:EName}(h0:x.name.size<2^60):Val ρ (.agg #[.bool x.mark,.string x.name]) x:=⟨[.bool x.mark,.string x.name],⟨[.bool x.mark],[.string x.name],rfl,rfl,⟨rfl,h0⟩⟩,rfl⟩
structure EField where
 x:FField
 house:ByteArray
deriving DecidableEq
instance:Dat EField:=.iso fun x=>(x.x,x.house)
theorem EField.open_{ρ:Ro}{v:Value}{x:EField}(h:Val ρ v x):∃c0,v = .agg #[.string x.x.name,.int .i64 x.x.house,.int .i64 x.x.grows.low,.int .i64 x.x.grows.high,c0,.string x.house]∧x.x.name.size<2^60∧I64 x.x.house∧I64 x.x.grows.low∧I64 x.x.grows.high∧Val ρ c0 x.x.marks∧x.house.size<2^60:=by
 obtain⟨cs,⟨y,E,n,⟨z,F,p,⟨b,i⟩,⟨B,G,q,⟨c,j⟩,⟨C,H,t,⟨D,I,u,⟨d,k⟩,⟨e,l⟩⟩,⟨w,f,m⟩⟩⟩⟩,⟨a,g⟩⟩,hv⟩:=h
 subst p
 subst q
 subst u
 subst t
 subst n
 subst b
 subst c
 subst d
 subst e
 subst f
 subst a
 exact⟨w,hv,i,j,k,l,Cs.2 m,g⟩
theorem EField.shut{ρ:Ro}{x:EField}{c0:Value}(h0:x.x.name.size<2^60)(h1:I64 x.x.house)(h2:I64 x.x.grows.low)(h3:I64 x.x.grows.high)(h4:Val ρ c0 x.x.marks)(h5:x.house.size<2^60):Val ρ (.agg #[.string x.x.name,.int .i64 x.x.house,.int .i64 x.x.grows.low,.int .i64 x.x.grows.high,c0,.string x.house]) x:=⟨[.string x.x.name,.int .i64 x.x.house,.int .i64 x.x.grows.low,.int .i64 x.x.grows.high,c0,.string x.house],⟨[.string x.x.name]++([.int .i64 x.x.house]++(([.int .i64 x.x.grows.low]++[.int .i64 x.x.grows.high])++[c0])),[.string x.house],rfl,⟨[.string x.x.name],[.int .i64 x.x.house]++(([.int .i64 x.x.grows.low]++[.int .i64 x.x.grows.high])++[c0]),rfl,⟨rfl,h0⟩,⟨[.int .i64 x.x.house],([.int .i64 x.x.grows.low]++[.int .i64 x.x.grows.high])++[c0],rfl,⟨rfl,h1⟩,⟨[.int .i64 x.x.grows.low]++[.int .i64 x.x.grows.high],[c0],rfl,⟨[.int .i64 x.x.grows.low],[.int .i64 x.x.grows.high],rfl,⟨rfl,h2⟩,⟨rfl,h3⟩⟩,⟨c0,rfl,Cs.1 h4⟩⟩⟩⟩,⟨rfl,h5⟩⟩,rfl⟩
structure ESale where
 grams:Int
 sellers:List ByteArray
deriving DecidableEq
instance:Dat ESale:=.iso fun x=>(x.grams,x.sellers)
theorem ESale.f_grams:Fld ESale Int 0 ESale.grams:=⟨fun ρ cs x=>(Fld.fst:Fld ((Int)×(List ByteArray)) Int 0 _).at_ ρ cs (x.grams,x.sellers)⟩
theorem ESale.f_sellers:Fld ESale (List ByteArray) 1 ESale.sellers:=⟨fun ρ cs x=>((.snd Fld.self):Fld ((Int)×(List ByteArray)) (List ByteArray) 1 _).at_ ρ cs (x.grams,x.sellers)⟩
theorem ESale.shut{ρ:Ro}{x:ESale}{c0:Value}(h0:I64 x.grams)(h1:Val ρ c0 x.sellers):Val ρ (.agg #[.int .i64 x.grams,c0]) x:=⟨[.int .i64 x.grams,c0],⟨[.int .i64 x.grams],[c0],rfl,⟨rfl,h0⟩,⟨c0,rfl,Cs.1 h1⟩⟩,rfl⟩
theorem Bqz:GoTy Tryz.prog 262 ELab:=⟨⟨_,But,rfl⟩,⟨_,Ab Bwy,rfl⟩⟩
theorem Bra:GoTy Tryz.prog 264 EKind:=⟨⟨_,Buv,rfl⟩,⟨_,Ab Bwz,rfl⟩⟩
theorem Bqx:GoTy Tryz.prog 256 ETest:=⟨⟨_,Bux,rfl⟩,⟨_,Ab Bwv,rfl⟩⟩
theorem Brb:GoTy Tryz.prog 266 EName:=⟨⟨_,Buu,rfl⟩,⟨_,Ab Bxa,rfl⟩⟩
theorem Bqy:GoTy Tryz.prog 260 ESale:=⟨⟨_,Bvc,rfl⟩,⟨_,Ab Bwx,rfl⟩⟩
def Bjp:List Value:=[.int .i64 0]
theorem Zg:Fw Tryz.prog 262 (.agg #[.int .i64 0]):=⟨_,Ab Bwy,rfl⟩
def Bjq:List Value:=[.string (ByteArray.mk #[])]
theorem Acr:Fw Tryz.prog 264 (.agg #[.string (ByteArray.mk #[])]):=⟨_,Ab Bwz,rfl⟩
def Bjn:List Value:=[.string (ByteArray.mk #[]),.slice none 0 0,.bool false]
theorem Age:Fw Tryz.prog 256 (.agg #[.string (ByteArray.mk #[]),.slice none 0 0,.bool false]):=⟨_,Ab Bwv,rfl⟩
def Bjr:List Value:=[.bool false,.string (ByteArray.mk #[])]
theorem Aly:Fw Tryz.prog 266 (.agg #[.bool false,.string (ByteArray.mk #[])]):=⟨_,Ab Bxa,rfl⟩
def Bri:List Value:=[.string (ByteArray.mk #[]),.int .i64 0,.int .i64 0,.int .i64 0,.slice none 0 0,.string (ByteArray.mk #[])]
theorem Aru:Fw Tryz.prog 258 (.agg #[.string (ByteArray.mk #[]),.int .i64 0,.int .i64 0,.int .i64 0,.slice none 0 0,.string (ByteArray.mk #[])]):=⟨_,Ab Bww,rfl⟩
def Bjo:List Value:=[.int .i64 0,.slice none 0 0]
theorem Ayx:Fw Tryz.prog 260 (.agg #[.int .i64 0,.slice none 0 0]):=⟨_,Ab Bwx,rfl⟩
end
section
open Go
def EntV(ρ:Ro)(v:Value):Ent→Prop
 | .lab n=>∃w,v = .iface 262 w∧Val ρ w (⟨n⟩:ELab)
 | .kind s=>∃w,v = .iface 264 w∧Val ρ w (⟨s⟩:EKind)
 | .test t=>∃w,v = .iface 256 w∧Val ρ w (⟨t⟩:ETest)
 | .go=>v = .iface 172 (.agg #[])
 | .name mk s=>∃w,v = .iface 266 w∧Val ρ w (⟨mk,s⟩:EName)
 | .field x h=>∃w,v = .iface 258 w∧Val ρ w (⟨x,h⟩:EField)
 | .sale n l=>∃w,v = .iface 260 w∧Val ρ w (⟨n,l⟩:ESale)
theorem EntV.mono{ρ ρ':Ro}(h:Ro.le ρ ρ'){v:Value}{e:Ent}(he:EntV ρ v e):EntV ρ' v e:=by
 cases e<;>first|exact he|(obtain⟨w,a,b⟩:=he;exact⟨w,a,b.mono h⟩)
theorem EntV.ifc{ρ:Ro}{v:Value}{e:Ent}(he:EntV ρ v e):∃t w,v = .iface t w:=by
 cases e<;>first|exact⟨_,_,he⟩|(obtain⟨w,a,b⟩:=he;exact⟨_,w,a⟩)
theorem Bjt:Fw Tryz.prog 172 (.agg #[]):=⟨_,Ab Tryz.typeInfo172,rfl⟩
theorem Bdk{s:List UInt8}{L:List ByteArray}(hL:L=bw (Es s)):0<L.length:=by
 rw[hL]
 cases hs:Es s with
 | nil=>exact absurd hs Wi
 | cons u f=>simp[bw]
theorem Bej{x:List UInt8}:((bs x).toList==(bs ([]:List UInt8)).toList)=x.isEmpty:=by
 rw[Td,Td]
 cases x<;>rfl
theorem Aii{s:List UInt8}{L:List ByteArray}(hL:L=bw (Es s)):decide (findI L (bs [])≥0)=Nz s:=by
 have h:=Yl (l:=L) (s:=bs [])
 have e:inL L (bs [])=Nz s:=by
  subst hL
  unfold inL Nz bw
  rw[List.any_map]
  congr 1
  funext x
  exact Bool.beq_comm.trans Bej
 rw[e]at h
 cases hb:Nz s with
 | true=>exact Hx (h.2 hb)
 | false=>exact Hn fun hh=>by rw[h.1 hh]at hb;cases hb
theorem Bby{s:List UInt8}(h:Nz s=true):Abc s=none:=by unfold Abc;rw[if_pos h]
theorem Bpm{s:List UInt8}{L:List ByteArray}{a:ByteArray}(hL:L=bw (Es s))(he:Nz s=false)(h0:L[0]?=some a):Abc s=Oq a.data.toList (L.drop 1):=by
 unfold Abc
 rw[if_neg (by rw[he];simp)]
 subst hL
 cases hs:Es s with
 | nil=>exact absurd hs Wi
 | cons u f =>
  rw[hs]at h0
  obtain rfl:bs u=a:=by simpa[bw]using h0
  rfl
section
variable{u:List UInt8}{ws:List ByteArray}{a b:ByteArray}
theorem Bse(h:u=Ea)(hl:ws.length=0):Oq u ws=some .go:=by unfold Oq;rw[if_pos h,if_pos hl]
theorem Bpp(h:u=Ea)(hl:¬ws.length=0):Oq u ws=none:=by unfold Oq;rw[if_pos h,if_neg hl]
theorem Bsf(h1:¬u=Ea)(h:u=Oj∨u=Nq)(hl:ws.length=0):Oq u ws=none:=by unfold Oq;rw[if_neg h1,if_pos h,ws0 hl];rfl
theorem Bpq(h1:¬u=Ea)(h:u=Oj∨u=Nq)(hv:Gm Pb (wl (ws.drop 1))=none):Oq u ws=none:=by
 unfold Oq;rw[if_neg h1,if_pos h,hv];cases ws[0]?<;>rfl
theorem Btg{x:List Int}(h1:¬u=Ea)(h:u=Oj∨u=Nq)(h0:ws[0]?=some a)(hv:Gm Pb (wl (ws.drop 1))=some x):Oq u ws=some (.test ⟨a,x,u==Nq⟩):=by
 unfold Oq;rw[if_neg h1,if_pos h,hv,h0]
theorem Bsd(h1:¬u=Ea)(h2:¬(u=Oj∨u=Nq))(h:u=Ib)(hl:ws.length≤2):Oq u ws=none:=by unfold Oq;rw[if_neg h1,if_neg h2,if_pos h,if_pos hl]
theorem Bpn(h1:¬u=Ea)(h2:¬(u=Oj∨u=Nq))(h:u=Ib)(hl:¬ws.length≤2)(hv:Gm Mi (wl (ws.drop 2))=none):Oq u ws=none:=by
 unfold Oq;rw[if_neg h1,if_neg h2,if_pos h,if_neg hl,hv];cases ws[0]?<;>cases ws[1]?<;>rfl
theorem Btf{r:List Span}{x:Span}(h1:¬u=Ea)(h2:¬(u=Oj∨u=Nq))(h:u=Ib)(hl:¬ws.length≤2)(h0:ws[0]?=some a)(h3:ws[1]?=some b)(hv:Gm Mi (wl (ws.drop 2))=some r)(hr:r[0]?=some x):Oq u ws=some (.field ⟨a,0,x,r.drop 1⟩ b):=by
 unfold Oq;rw[if_neg h1,if_neg h2,if_pos h,if_neg hl,hv,h0,h3];simp only[hr]
/-- None of the words that come first. -/
def Alz(u:List UInt8):Prop:=¬u=Ea∧¬(u=Oj∨u=Nq)∧¬u=Ib
theorem Awt(h:Alz u):Oq u ws=(match ws[0]? with
  | none=>none
  | some a=>if u=Pc∧Ee a.data.toList=true then some (.sale (Dp a.data.toList) (ws.drop 1))
   else if 1<ws.length then none
   else if u=Ub∧Ee a.data.toList=true then some (.lab (Dp a.data.toList))
   else if u=Pp then some (.kind a)
   else if u=Ic∨u=Lp then some (.name (u==Lp) a) else none):=by unfold Oq;rw[if_neg h.1,if_neg h.2.1,if_neg h.2.2]<;>rfl
theorem Bte(h:Alz u)(hl:ws.length=0):Oq u ws=none:=by rw[Awt h,ws0 hl];rfl
theorem Blj(h:Alz u)(h1:u=Pc)(h0:ws[0]?=some a)(hn:Ee a.data.toList=true):Oq u ws=some (.sale (Dp a.data.toList) (ws.drop 1)):=by rw[Awt h,h0];simp only;rw[if_pos ⟨h1,hn⟩]
theorem Aqp(h : Alz u)(h0 : ws[0]?=some a)(hs : ¬u=Pc ∨ Ee a.data.toList=false) : Oq u ws=(if 1<ws.length then none
      else if u=Ub∧Ee a.data.toList=true then some (.lab (Dp a.data.toList))
      else if u=Pp then some (.kind a)
      else if u=Ic∨u=Lp then some (.name (u==Lp) a) else none):=by
  rw[Awt h,h0];simp only;rw[if_neg];rintro⟨c,b⟩
  rcases hs with h4|h4
  · exact h4 c
  · rw[h4]at b;cases b
theorem Blg(h:Alz u)(h0:ws[0]?=some a)(hs:¬u=Pc∨Ee a.data.toList=false)(hl:1<ws.length):Oq u ws=none:=by rw[Aqp h h0 hs,if_pos hl]
theorem Bpo(h:Alz u)(h0:ws[0]?=some a)(hs:¬u=Pc∨Ee a.data.toList=false)(hl:¬1<ws.length)(h1:u=Ub)(hn:Ee a.data.toList=true):Oq u ws=some (.lab (Dp a.data.toList)):=by rw[Aqp h h0 hs,if_neg hl,if_pos ⟨h1,hn⟩]
theorem Aqo(h : Alz u)(h0 : ws[0]?=some a)(hs : ¬u=Pc ∨ Ee a.data.toList=false)(hl : ¬1<ws.length)(h1 : ¬u=Ub ∨ Ee a.data.toList=false) : Oq u ws=(if u=Pp then some (.kind a)
      else if u=Ic∨u=Lp then some (.name (u==Lp) a) else none):=by
  rw[Aqp h h0 hs,if_neg hl,if_neg];rintro⟨c,b⟩
  rcases h1 with h4|h4
  · exact h4 c
  · rw[h4]at b;cases b
theorem Blf(h:Alz u)(h0:ws[0]?=some a)(hs:¬u=Pc∨Ee a.data.toList=false)(hl:¬1<ws.length)(h1:¬u=Ub∨Ee a.data.toList=false)(h2:u=Pp):Oq u ws=some (.kind a):=by rw[Aqo h h0 hs hl h1,if_pos h2]
theorem Blh(h:Alz u)(h0:ws[0]?=some a)(hs:¬u=Pc∨Ee a.data.toList=false)(hl:¬1<ws.length)(h1:¬u=Ub∨Ee a.data.toList=false)(h2:¬u=Pp)(h3:u=Ic∨u=Lp):Oq u ws=some (.name (u==Lp) a):=by rw[Aqo h h0 hs hl h1,if_neg h2,if_pos h3]
theorem Bli(h:Alz u)(h0:ws[0]?=some a)(hs:¬u=Pc∨Ee a.data.toList=false)(hl:¬1<ws.length)(h1:¬u=Ub∨Ee a.data.toList=false)(h2:¬u=Pp)(h3:¬(u=Ic∨u=Lp)):Oq u ws=none:=by rw[Aqo h h0 hs hl h1,if_neg h2,if_neg h3]
end
end
end Go.Proofs.YtninnkechkolnaaGreatDoor
