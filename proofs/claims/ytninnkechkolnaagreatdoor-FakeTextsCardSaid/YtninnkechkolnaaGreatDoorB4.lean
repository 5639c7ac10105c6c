/- Part 4 of what all laws of layer 8 need: a logic of programs that start goroutines, and what the functions yield. -/
import Derived.Test.YtninnkechkolnaaGreatDoorB3
import Derived.KernelRfl
import Derived.Lib.Bytealg
set_option linter.unusedVariables false
set_option linter.unusedSimpArgs false
set_option maxRecDepth 100000
set_option maxHeartbeats 4000000
namespace Go.Proofs.YtninnkechkolnaaGreatDoor
section
open Go Go.WideShapes Go.ChangeShapes Go.RowKit Go.Conc
/-- What the first goroutine may rely on besides: what it owns is newer than the call's world;what it has frozen is its own again while nobody else is there. -/
def Aqx(P:Program)(W0:World):Frame→List Frame→Ro→Own→Cy→Prop:=fun fr cs ρ σ K =>
 Ade P fr cs ρ σ K ∨
 (∃(gr:Own) (ρ':Ro),Jp σ∧(∀p∈gr,W0.heap.size≤p.1∧∃o,p.2=Res.obj o∧ρ p.1=some o)∧(keys gr).Nodup∧Ro.le ρ' ρ∧(∀p∈gr,ρ' p.1=none)∧K fr cs ρ' (gr++σ)) ∨
 ((∀b∈keys σ,W0.heap.size≤b)→K fr cs ρ σ)
section
variable{P:Program}{Pst:Value→World→Prop}{W0:World}{fr:Frame}{cs:List Frame}{ρ:Ro}{σ:Own}
theorem Ben{gr ρ'}(hn:Jp σ)(hg:∀p∈gr,W0.heap.size≤p.1∧∃o,p.2=Res.obj o∧ρ p.1=some o)(hnd:(keys gr).Nodup)(hle:Ro.le ρ' ρ)(hno:∀p∈gr,ρ' p.1=none)(hK:Fine P W0 Pst fr cs ρ' (gr++σ)):Fine P W0 Pst fr cs ρ σ:=by
 refine⟨fun gs w sl t q h=>hK.A gs w sl t q {h with sat:=?_,nr:=?_,newk:=?_},fun c vs j Am Aw Sh fw cw ρw σw wp gs w sl t q _ h=>absurd h.hc (hn _ _),fun c j Am Aw Sh pc gs w sl t q h=>absurd h.hc (hn _ _)⟩
 ·have hk:keys (gr++σ)=keys gr++keys σ:=Ql
  refine⟨fun k ok hk=>h.sat.ro k ok (hle k ok hk),fun p hp=>?_,?_,fun k hk'=>?_⟩
  ·rcases Of.1 hp with hp|hp
   ·obtain⟨_,o,ho,hr⟩:=hg p hp
    rw[ho];exact h.sat.ro _ _ hr
   ·exact h.sat.own p hp
  ·rw[hk,Apn]
   refine⟨hnd,h.sat.nd,fun a ha b hb e=>?_⟩
   subst e
   obtain⟨p,hp,rfl⟩:=Sz.1 ha
   obtain⟨_,o,_,hr⟩:=hg p hp
   have:=h.sat.dj _ hb
   rw[hr]at this;cases this
  ·rw[hk,Of]at hk'
   rcases hk' with hk'|hk'
   ·obtain⟨p,hp,rfl⟩:=Sz.1 hk';exact hno p hp
   ·cases hr:ρ' k with
    | none=>rfl
    | some o=>have:=h.sat.dj k hk';rw[hle k o hr]at this;cases this
 ·intro c vs hm
  rcases Of.1 hm with hm|hm
  ·obtain⟨_,o,ho,_⟩:=hg _ hm;cases ho
  ·exact hn c vs hm
 ·intro b hb
  rw[show keys (gr++σ)=keys gr++keys σ from Ql,Of]at hb
  rcases hb with hb|hb
  ·obtain⟨p,hp,rfl⟩:=Sz.1 hb;exact(hg p hp).1
  ·exact h.newk b hb
theorem Azf(hK:(∀b∈keys σ,W0.heap.size≤b)→Fine P W0 Pst fr cs ρ σ):Fine P W0 Pst fr cs ρ σ :=
 ⟨fun gs w sl t q h=>(hK h.newk).A gs w sl t q h,fun c vs j Am Aw Sh fw cw ρw σw wp gs w sl t q hW h=>(hK h.newk).B c vs j Am Aw Sh fw cw ρw σw wp gs w sl t q hW h,fun c j Am Aw Sh pc gs w sl t q h=>(hK h.newk).C c j Am Aw Sh pc gs w sl t q h⟩
theorem Apa(h:GoesH ⟨P,true,Aqx P W0⟩ (Agg P W0 Pst) fr cs ρ σ):Fine P W0 Pst fr cs ρ σ:=by
 induction h with
 | stop h=>exact Aex h
 | ghost hg _ ih=>exact ih.ghost hg
 | step K h1 _ ih=>exact Aew h1 ih
 | @ext fr cs ρ σ K h1 _ ih =>
  rcases h1 with (⟨d,i,c,vs,fr',h1,h2,h3,h4,h5⟩|⟨i,c,v,vs,z,h1,h2,h3⟩|⟨i,c,z,h1,h2,h3⟩)|⟨gr,ρ',h1,h2,h3,h4,h5,h6⟩|h1
  ·exact Aeu h1 h2 h3 h4 (ih _ _ _ _ h5)
  ·exact Aev h1 h2 (ih _ _ _ _ h3)
  ·exact Aet h1 h2 (ih _ _ _ _ h3)
  ·exact Ben h1 h2 h3 h4 h5 (ih _ _ _ _ h6)
  ·exact Azf fun hk=>ih _ _ _ _ (h1 hk)
theorem Atw{F}(h:GoesH ⟨P,true,Aqx P W0⟩ (Agg P W0 Pst) F [] ρ [])(hro:∀b o,ρ b=some o→W0.heap[b]?=some o∧o.isChan=false):
  ∃M last o w' t',runNT P (M+1) (solo (G F []) W0) #[]=(.ended o w',t')∧runN P M (solo (G F []) W0) = .next last∧step P last = .ended o w'∧Go.Conc.Good P Pst last o w' t':=by
 have hw:My P Pst (crowd #[G F []] W0 none) #[]:=(Apa h).A #[G F []] W0 none #[] (fun _=>0) {
  g0:=⟨G F [],rfl,Is.of _ _⟩
  oth:=fun k y hk hy=>by
   match k with
   | 0=>exact absurd rfl hk
   | k+1=>simp at hy
  sat:=⟨hro,fun p hp=>absurd hp Atn,List.nodup_nil,fun b hb=>absurd hb Atn⟩
  nr:=fun c' vs' hc'=>by cases hc'
  newk:=fun b hb=>by cases hb
  below:=Below.refl _ _
  tr:=TA.nil }
 exact hw
theorem Aty{f r args R}(h:Agd ⟨P,true,Aqx P W0⟩ f r args ρ [] R)(hi:P.inits.idxOf? f=none)(hR:∀v ρ' σ',R v ρ' σ'→σ'=[]∧∀W,Below W0.heap.size W0 W→Pst v W):GoesH ⟨P,true,Aqx P W0⟩ (Agg P W0 Pst) (Frame.enter P f args.toArray .normal) [] ρ []:=by
 obtain⟨fn,c,hf,hc,hr,ha,hw⟩:=h
 have hf:P.funcs[f]?=some fn:=hf
 have d:Frame.enter P f args.toArray .normal=Fr ⟨f,.normal,none⟩ (args.toArray++Array.replicate (fn.ntmps-args.toArray.size) undef) [] [.code c]:=by
  simp[Frame.enter,hf,hc,Fr]
 rw[d]
 refine(hw (fun ex e ds ρ σ=>(∀id,ex ≠ .exit id)∧ds=[]∧R (e r) ρ σ) (fun e ρ' σ' h=>⟨fun id h=>(by cases h),rfl,h⟩) (fun e ρ' σ' h=>⟨fun id h=>(by cases h),rfl,h⟩) _ [] [] (Tn ha)).bind ?_
 rintro _ _ ρ' σ' ⟨rfl,ex,tm',e',ds',a,g,⟨i,rfl,j⟩,b,rfl⟩
 obtain⟨rfl,hp⟩:=hR _ _ _ j
 have fin:∀a,GoesH ⟨P,true,Aqx P W0⟩ (Agg P W0 Pst) {Fr ⟨f,.normal,none⟩ tm' [] a with mode:=.returning} [] ρ' []:=fun a=>by
  refine .stop ⟨fun c vs hm=>(by cases hm),fun W hs hb _=>⟨e' r,W,#[],?_,fun ev hv=>by simp at hv,hp W hb⟩⟩
  have hrs:(results fn tm').runT P W #[]=(.ok (e' r) W,#[]):=by
   rw[←g.2 r]
   unfold results;rw[hr,Bjn];rfl
  simp[Conc.G,stepG,Fr,unwind,hf,-Sem.runT_eq,hrs,doReturn,hi,GStep.after,seen]
 cases ex with
 | normal =>
  cases b
  exact Eh (fr':={Fr ⟨f,.normal,none⟩ tm' [] [] with mode:=.returning}) (cs':=[]) (fun W=>by simp[Conc.G,stepG,stepG.exec,Fr]) (fin _)
 | exit id=>exact absurd rfl (i id)
 | ret =>
  obtain⟨pre,rfl⟩:=b
  exact Eh (fr':={Fr ⟨f,.normal,none⟩ tm' [] (.code .ret::(pre++[])) with mode:=.returning}) (cs':=[]) (fun W=>by simp[Conc.G,stepG,stepG.exec,Fr]) (fin _)
end
theorem GoesH.ctx{P mn X Y}(hX:∀fr cs ρ σ K,X fr cs ρ σ K→Y fr cs ρ σ K){S fr cs ρ σ}(h:GoesH ⟨P,mn,X⟩ S fr cs ρ σ):GoesH ⟨P,mn,Y⟩ S fr cs ρ σ:=by
 induction h with
 | stop h=>exact .stop h
 | ghost hg _ ih=>exact .ghost hg ih
 | step K h1 _ ih=>exact .step K h1 ih
 | ext K h1 _ ih=>exact .ext K (hX _ _ _ _ _ h1) ih
noncomputable abbrev CY(W0:World):Ctx:=CX true (Aqx Tryz.prog W0)
theorem Aea{W0 f args ρ σ R}(h:CallsH (CX true (Ade Tryz.prog)) f args ρ σ R):CallsH (CY W0) f args ρ σ R :=
 fun c cs=>(h c cs).ctx fun _ _ _ _ _ h=>.inl h
section
variable{W0:World}{b:FB}{n:Nat}{e:Env}{ds:List Deferred}{ρ:Ro}{σ:Own}
theorem Azi{S fr cs}(h:(∀b∈keys σ,W0.heap.size≤b)→(keys σ).Nodup→(∀b∈keys σ,ρ b=none)→GoesH (CY W0) S fr cs ρ σ):GoesH (CY W0) S fr cs ρ σ:=by
 by_cases hs:∃W,Sat ρ σ W
 ·obtain⟨W,hs⟩:=hs
  exact .ext (fun fr' cs' ρ' σ'=>fr'=fr∧cs'=cs∧ρ'=ρ∧σ'=σ∧∀b∈keys σ,W0.heap.size≤b) (.inr (.inr fun hk=>⟨rfl,rfl,rfl,rfl,hk⟩)) (by rintro _ _ _ _ ⟨rfl,rfl,rfl,rfl,hk⟩;exact h hk hs.nd hs.dj)
 ·exact Rc fun W hW=>hs ⟨W,hW⟩
theorem Aej{C:Ctx}{S:Cy}{fr:Frame}{cs:List Frame}:∀{gr:Own} {ρ:Ro},(∀p∈gr,∃o,p.2=Res.obj o)→(∀ρ',Ro.le ρ ρ'→(∀p∈gr,∃o,p.2=Res.obj o∧ρ' p.1=some o)→GoesH C S fr cs ρ' σ)→GoesH C S fr cs ρ (gr++σ)
 | [],ρ,_,h=>h ρ .refl fun p hp=>by cases hp
 | (k,x)::gr,ρ,hg,h=>by
  obtain⟨o,ho⟩:=hg _ mC
  simp only at ho;subst ho
  refine Rv fun ρ' b c=>Aej (fun p hp=>hg p (lZ7 _ hp)) fun ρ'' a d=>h ρ'' (b.trans a) fun p hp=>?_
  rcases Nc.1 hp with rfl|hp
  ·exact⟨o,rfl,a _ _ c⟩
  ·exact d p hp
/-- Blocks that are lent: frozen for now,newer than the call's world,not read before. -/
structure Lent(W0:World)(ρ0 ρ:Ro)(gr:Own):Prop where
 at_:∀p∈gr,W0.heap.size≤p.1∧∃o,p.2=Res.obj o∧ρ p.1=some o
 nd:(keys gr).Nodup
 no:∀p∈gr,ρ0 p.1=none
 le:Ro.le ρ0 ρ
theorem Beq{α}[Dat α]{S fr cs el v}{xs:List α}{gr}(hg:Grow ρ el v xs gr)(h:∀ρ',Ro.le ρ ρ'→Val ρ' v xs→Lent W0 ρ ρ' gr→GoesH (CY W0) S fr cs ρ' σ):GoesH (CY W0) S fr cs ρ (gr++σ):=by
 refine Azi fun j d k=>Aej hg.1 fun ρ' c e=>h ρ' c ?_ ⟨fun p hp=>⟨j _ (Aai (f:=Prod.fst) (Uf _ hp)),e p hp⟩,?_,fun p hp=>k _ (Aai (f:=Prod.fst) (Uf _ hp)),c⟩
 ·rcases hg.2.2 with⟨a,b⟩|⟨r,cap,cs,rs,gb,a,b,g,l,i⟩
  ·rw[a,b];exact Gx
  ·obtain⟨o,ho,hr⟩:=e (r,.obj (.cells (cs++rs).toArray el (0,0))) (by rw[b];exact Aiq ..)
   cases ho
   exact Grow.val hg.2.1 a (g.mono c) i hr
 ·rw[show keys (gr++σ)=keys gr++keys σ from Ql,Apn]at d
  exact d.1
theorem Bep{S fr cs gr ρ0}(hL:Lent W0 ρ0 ρ gr)(hn:Jp σ)(h:GoesH (CY W0) S fr cs ρ0 (gr++σ)):GoesH (CY W0) S fr cs ρ σ :=
 .ext (fun fr' cs' ρ' σ'=>fr'=fr∧cs'=cs∧ρ'=ρ0∧σ'=gr++σ) (.inr (.inl ⟨gr,ρ0,hn,hL.at_,hL.nd,hL.le,hL.no,rfl,rfl,rfl,rfl⟩)) (by rintro _ _ _ _ ⟨rfl,rfl,rfl,rfl⟩;exact h)
theorem Ajg{α}[Dat α]{Q c el v}{xs:List α}{gr}(hg:Grow ρ el v xs gr)(h:∀ρ',Ro.le ρ ρ'→Val ρ' v xs→Lent W0 ρ ρ' gr→WpC (CY W0) b n c Q e ds ρ' σ):WpC (CY W0) b n c Q e ds ρ (gr++σ) :=
 fun tm k cs ht=>Beq hg fun ρ' a d f=>h ρ' a d f tm k cs ht
theorem Ajf{Q c gr ρ0}(hL:Lent W0 ρ0 ρ gr)(hn:Jp σ)(h:WpC (CY W0) b n c Q e ds ρ0 (gr++σ)):WpC (CY W0) b n c Q e ds ρ σ :=
 fun tm k cs ht=>Bep hL hn (h tm k cs ht)
end
end
section
open Go
theorem Auo{P fr cs s W W' v es}(hk:fr.kind ≠ .early)(hr:s.runT P W #[]=(.ok (.value v) W',es)):
  stepG.apply P true fr cs none s W = .go (Conc.G (fr.finish v) cs) W' (seen P fr.fn es):=by
 have hk':(fr.kind==CallKind.early)=false:=by cases h:fr.kind<;>simp_all<;>rfl
 simp[stepG.apply,-Sem.runT_eq,hr,hk',GStep.after,Conc.G]
section
variable{C:Ctx}{b:FB}{n:Nat}{l₀ rest:List Oper}{Q:Env→List Deferred→Ro→Own→Prop}{e:Env}{ds:List Deferred}{ρ:Ro}{σ:Own}
end
section
variable{P:Program}{ρ:Ro}{e:Env}{ty t t':TypeId}{x:Operand}{kt et:TypeId}{v:Value}
end
end
section
open Go
section
variable{P:Program}{ρ:Ro}{e:Env}{ty t t':TypeId}{x y:Operand}{v:Value}
theorem Ayd{el a}(hT:P.underlying t=some (.pointer el))(hx:Af e x = .pointer a)(hy:Af e y = .pointer none):Yld P ρ e (.binOp .eql t x y t') ty (.bool a.isNone) :=
 Mt (s:=(do eqGuard .eql t x y (Af e x) (Af e y);binOp .eql t (Af e x) (Af e y))) (fun _ _ _ _=>rfl) fun ρ' σ _=>by
  rw[hx,hy,show eqGuard .eql t x y (.pointer a) (.pointer none)=pure () from rfl]
  show wpS P ρ' ((Op.equal t (.pointer a) (.pointer none)).bind _) σ _
  rw[Ad]
  show wpS P ρ' ((underlying t).bind _) σ _
  rw[Ad]
  refine Az hT ?_
  cases a<;>exact⟨rfl,rfl⟩
theorem Bpz{el a n}(hT:P.underlying t=some (.pointer el))(hz:∃i,P.info? el=some i∧i.size=n)(hn:n≠0)(hx:Af e x = .pointer (some a))(hy:Af e y = .pointer (some a)):Yld P ρ e (.binOp .neq t x y t') ty (.bool false) :=
 Mt (s:=(do eqGuard .neq t x y (Af e x) (Af e y);binOp .neq t (Af e x) (Af e y))) (fun _ _ _ _=>rfl) fun ρ' σ _=>by
  rw[hx,hy,show eqGuard .neq t x y (.pointer (some a)) (.pointer (some a))=pure () from rfl]
  show wpS P ρ' ((Op.equal t (.pointer (some a)) (.pointer (some a))).bind _) σ _
  rw[Ad]
  show wpS P ρ' ((underlying t).bind _) σ _
  rw[Ad]
  refine Az hT ?_
  show wpS P ρ' ((sizeOf el).bind _) σ _
  rw[Ad]
  refine Dx hz ?_
  simp only[ne_eq,hn,not_false_eq_true,if_true]
  show wpS P ρ' (sameAddr a a) σ _
  unfold sameAddr
  simp only[beq_self_eq_true,if_true]
  exact⟨rfl,rfl⟩
end
section
variable{C:Ctx}{e:Env}{ds:List Deferred}{ρ:Ro}{σ:Own}{K:Value→List Deferred→Ro→Own→Prop}{rd:Option Nat}{dd:Option Tmp}
variable{ty:TypeId}{pos:String}{af:Array Edge}{g:Option (Nat×Bool)}{x:Operand}{t t' t2:TypeId}
theorem Anp{P a c t1 fz}(h:Has ρ σ a.block (.cells c t1 fz)){Q}(hq:Q a σ):wpS P ρ (Conv.seenAt a) σ Q:=by
 unfold Conv.seenAt viewAt
 show wpS P ρ (((shape a.block).bind _).bind _) σ Q
 rw[Ad,Ad]
 refine⟨_,h,?_⟩
 exact hq
/-- A pointer to a variable that is owned,without its type. -/
theorem Bgk{r n i:Nat}{c:List Value}{fz el}(hT:C.P.underlying t=some (.pointer el))(hT':C.P.underlying t'=some .unsafePointer)(hz:∃i,C.P.info? el=some i∧i.size=n)(hn:n≠0)(hx:Af e x = .pointer (some ⟨r,0,none⟩))(hi:σ[i]?=some (r,.obj (.cells c.toArray t2 fz)))(hc:0<c.length)(h:K (.pointer (some ⟨r,0,none⟩)) ds ρ σ):wpS C.P ρ (execOp (Af e) ⟨dd,.convert t t' x,ty,pos,af,g⟩) σ (NextH C K rd ds ρ):=by
 have hh:Has ρ σ r (.cells c.toArray t2 fz):=.inr (lZ8 hi)
 show wpS C.P ρ ((convert t t' (Af e x)).bind _) σ _
 refine Gd ?_
 rw[hx]
 show wpS C.P ρ ((underlying t).bind _) σ _
 rw[Ad]
 refine Az hT ?_
 show wpS C.P ρ ((underlying t').bind _) σ _
 rw[Ad]
 refine Az hT' ?_
 show wpS C.P ρ (Conv.unsafePointer t t' (.pointer (some ⟨r,0,none⟩))) σ _
 unfold Conv.unsafePointer
 show wpS C.P ρ ((underlying t).bind _) σ _
 rw[Ad]
 refine Az hT ?_
 show wpS C.P ρ ((underlying t').bind _) σ _
 rw[Ad]
 refine Az hT' ?_
 simp only
 show wpS C.P ρ ((Conv.seenAt ⟨r,0,none⟩).bind _) σ _
 rw[Ad]
 refine Anp hh ?_
 show wpS C.P ρ ((cellsIn r).bind _) σ _
 rw[Ad]
 unfold cellsIn
 show wpS C.P ρ ((shape r).bind _) σ _
 rw[Ad]
 refine⟨_,hh,?_⟩
 simp only[Xk]
 show wpS C.P ρ ((sizeOf el).bind _) σ _
 rw[Ad]
 refine Dx hz ?_
 have a:¬(0:Nat)≥c.toArray.size:=by rw[show c.toArray.size=c.length by simp];omega
 simp only[a,hn,decide_false,Bool.false_and,Bool.or_self,if_false,Agm,or_self]
 exact h
/-- And back again. -/
theorem Bpo{r n i:Nat}{c:List Value}{fz el}(hT:C.P.underlying t=some .unsafePointer)(hT':C.P.underlying t'=some (.pointer el))(hz:∃i,C.P.info? el=some i∧i.size=n)(hn:n≠0)(hx:Af e x = .pointer (some ⟨r,0,none⟩))(hi:σ[i]?=some (r,.obj (.cells c.toArray t2 fz)))(hl:liesAt C.P C.P.depth t2 (c.length/C.P.cellsOf t2) 0 el 1=true)(h:K (.pointer (some ⟨r,0,none⟩)) ds ρ σ):wpS C.P ρ (execOp (Af e) ⟨dd,.convert t t' x,ty,pos,af,g⟩) σ (NextH C K rd ds ρ):=by
 have hh:Has ρ σ r (.cells c.toArray t2 fz):=.inr (lZ8 hi)
 show wpS C.P ρ ((convert t t' (Af e x)).bind _) σ _
 refine Gd ?_
 rw[hx]
 show wpS C.P ρ ((underlying t).bind _) σ _
 rw[Ad]
 refine Az hT ?_
 show wpS C.P ρ ((underlying t').bind _) σ _
 rw[Ad]
 refine Az hT' ?_
 show wpS C.P ρ (Conv.unsafePointer t t' (.pointer (some ⟨r,0,none⟩))) σ _
 unfold Conv.unsafePointer
 show wpS C.P ρ ((underlying t).bind _) σ _
 rw[Ad]
 refine Az hT ?_
 show wpS C.P ρ ((underlying t').bind _) σ _
 rw[Ad]
 refine Az hT' ?_
 simp only
 show wpS C.P ρ ((Conv.seenAt ⟨r,0,none⟩).bind _) σ _
 rw[Ad]
 refine Anp hh ?_
 show wpS C.P ρ ((sizeOf el).bind _) σ _
 rw[Ad]
 refine Dx hz ?_
 show wpS C.P ρ ((variablesAt ⟨r,0,none⟩ el 1).bind _) σ _
 rw[Ad]
 unfold variablesAt
 show wpS C.P ρ (program.bind _) σ _
 rw[Ad]
 show wpS C.P ρ ((shape r).bind _) σ _
 rw[Ad]
 refine⟨_,hh,?_⟩
 simp only[Xk]
 rw[show c.toArray.size=c.length by simp]
 show wpS C.P ρ (if (decide (n=0)||liesAt C.P C.P.depth t2 (c.length/C.P.cellsOf t2) 0 el 1)=true then _ else _) σ _
 rw[hl]
 simp only[Bool.or_true,if_true]
 exact h
end
section
variable{C:Ctx}{b:FB}{n:Nat}{l₀ rest:List Oper}{Q:Env→List Deferred→Ro→Own→Prop}{e:Env}{ds:List Deferred}{ρ:Ro}{σ:Own}
/-- A call of a function without a body,one step of a region of one order. -/
theorem Bvl{d f fn xs vs G R tys ty pos af g}(hw:Bz l₀.toArray ⟨some d,.call ⟨.value (.func f),xs,tys⟩,ty,pos,af,g⟩ e=true)(hf:C.P.funcs[f]?=some fn)(hn:(fn.name == "runtime.NumGoroutine")=false)(hb:fn.body.isNone=true)(hx0:Extern.findNext fn=none)(he:Extern.find fn=some G)(hx:xs.map (Af e)=vs)(hG:wpS C.P ρ (G vs) σ R)(h:∀v σ',R v σ'→Ey C b n l₀ rest Q (upd e d v) ds ρ σ'):
  Ey C b n l₀ (⟨some d,.call ⟨.value (.func f),xs,tys⟩,ty,pos,af,g⟩::rest) Q e ds ρ σ:=by
 intro pre c hs hk tm k cs ht
 have ho:l₀.toArray[pre.length]?=some ⟨some d,.call ⟨.value (.func f),xs,tys⟩,ty,pos,af,g⟩:=by subst c;simp
 rw[lZ3,Azv]
 have hev:=ht.eval b ds (.inRegion l₀.toArray (pre.length::List.range' (pre.length+1) rest.length)::k)
 have u:∀W:World,(execOp (Af e) ⟨some d,.call ⟨.value (.func f),xs,tys⟩,ty,pos,af,g⟩).runT C.P W #[]=((G vs).bind fun v=>Sem.pure (Next.value v)).runT C.P W #[⟨.mark (.extern f),false,true⟩]:=by
  intro W
  have j:execOp (Af e) ⟨some d,.call ⟨.value (.func f),xs,tys⟩,ty,pos,af,g⟩=callFunc f vs:=by
   show callFunc f ((#[]++xs.map (Af e)) ++ #[])=_
   rw[Apl,Alv,hx]
  rw[j]
  unfold callFunc
  show ((program).bind _).runT C.P W #[]=_
  rw[Sem.runT_bind']
  simp only[program,Sem.runT,hf,hn,hb]
  simp only[hx0,he]
  rfl
 refine .step (fun fr' cs' σ'=>∃v,R v σ'∧fr'=(Fr b tm ds (.inRegion l₀.toArray (pre.length::List.range' (pre.length+1) rest.length)::k)).finish v∧cs'=cs) (fun W w=>?_) ?_
 ·have hwp:wpS C.P ρ ((G vs).bind fun v=>Sem.pure (Next.value v)) σ (fun nx σ'=>∃v,R v σ'∧nx = .value v):=by
   rw[Ad]
   exact Eu (fun v σ' hv=>⟨v,hv,rfl⟩) _ _ hG
  obtain⟨nx,σ',W',es,a,l,m,p⟩:=Rr _ σ _ W #[⟨.mark (.extern f),false,true⟩] hwp w
  obtain⟨v,hv,rfl⟩:=l
  rw[←u W]at a
  have q:=Auo (fr:=Fr b tm ds (.inRegion l₀.toArray (pre.length::List.range' (pre.length+1) rest.length)::k)) (cs:=cs) (by exact hk) a
  have t:∀ev∈seen C.P b.fn es,Ajj ρ σ' ev:=fun ev he'=>((p ev (Lh he').1).resolve_left fun hc=>Acj he' f (by simp at hc;rw[hc])).resolve_right fun⟨f,hf⟩=>(Lh he').2 f hf
  refine⟨_,cs,W',seen C.P b.fn es,_,?_,m,t,v,hv,rfl,rfl⟩
  have hst:=Np (C:=C) (b:=b) (ds:=ds) (tm:=tm) (k:=k) (cs:=cs) (rest:=List.range' (pre.length+1) rest.length) ho (by rw[Ij hs ht];exact hw) (fun c' h'=>by cases h') W
  refine hst.trans ?_
  rw[hev]
  exact q
 ·rintro _ _ σ' ⟨v,hv,rfl,rfl⟩
  rw[Ju ho]
  have i:=h v σ' hv (pre++[⟨some d,.call ⟨.value (.func f),xs,tys⟩,ty,pos,af,g⟩]) (by rw[c];simp) hs hk
  rw[lZ0,Atl]at i
  exact i _ k _ (Jj hs ht ho _)
/-- Its value hangs on the arguments alone. -/
theorem Alw{d f fn xs vs G v tys ty pos af g}(hw:Bz l₀.toArray ⟨some d,.call ⟨.value (.func f),xs,tys⟩,ty,pos,af,g⟩ e=true)(hf:C.P.funcs[f]?=some fn)(hn:(fn.name == "runtime.NumGoroutine")=false)(hb:fn.body.isNone=true)(hx0:Extern.findNext fn=none)(he:Extern.find fn=some G)(hx:xs.map (Af e)=vs)(hG:wpS C.P ρ (G vs) σ (fun w σ'=>w=v∧σ'=σ))(h:Ey C b n l₀ rest Q (upd e d v) ds ρ σ):
  Ey C b n l₀ (⟨some d,.call ⟨.value (.func f),xs,tys⟩,ty,pos,af,g⟩::rest) Q e ds ρ σ :=
 Bvl hw hf hn hb hx0 he hx hG fun _ _ ⟨a,c⟩=>by subst a c;exact h
end
theorem Aht{e x v}(h:Af e x=v):(#[x]:Array Operand).map (Af e) = #[v]:=by simp[h]
theorem Awq{e x y v w}(h:Af e x=v)(h':Af e y=w):(#[x,y]:Array Operand).map (Af e) = #[v,w]:=by simp[h,h']
theorem Bic{P ρ σ v}:wpS P ρ (Extern.AbiNoEscape.same #[v]) σ (fun w σ'=>w=v∧σ'=σ):=⟨rfl,rfl⟩
end
section
open Go
section
variable{C:Ctx}{e:Env}{ds:List Deferred}{ρ:Ro}{σ:Own}{K:Value→List Deferred→Ro→Own→Prop}{rd:Option Nat}{dd:Option Tmp}
variable{ty:TypeId}{pos:String}{af:Array Edge}{g:Option (Nat×Bool)}{x y:Operand}{v:Value}{t t':TypeId}
theorem Aig{xs ys gr el z ti}(hT:C.P.underlying t=some (.slice el))(hT':C.P.underlying t'=some .string)(hi:C.P.info? el=some ti)(hik:ti.size=Dat.k UInt8)(hib:ti.bytes≤1000)(hz:ti.zero=some z)(hzk:z.cells.size=Dat.k UInt8)(hx:Af e x=v)(hy:Af e y = .string (bs ys))(hv:Grow ρ el v xs gr)(hlen:xs.length+ys.length<2^30)(h:∀v' gr',Grow ρ el v' (xs++ys) gr'→K v' ds ρ (gr'++σ)):wpS C.P ρ (execOp (Af e) ⟨dd,.call ⟨.builtin .append,#[x,y],#[t,t']⟩,ty,pos,af,g⟩) (gr++σ) (NextH C K rd ds ρ):=by
 have I:(#[x,y]:Array Operand).map (Af e) = #[v,.string (bs ys)]:=by simp[hx,hy]
 show wpS C.P ρ (builtin .append #[t,t'] ty ((#[x,y]:Array Operand).map fun | .const _=>true|_=>false) ((#[x,y]:Array Operand).map (Af e))) _ _
 rw[I]
 show wpS C.P ρ ((Builtin.append_ #[t,t'] ty #[v,.string (bs ys)]).bind fun v=>Sem.pure (Next.value v)) _ _
 refine Gd ?_
 obtain⟨va,vl,vc,hvs⟩:∃va vl vc,v = .slice va vl vc∧vl=xs.length:=by
  rcases hv.2.2 with⟨d,f⟩|⟨r,cap,cs,rs,gb,d,_⟩
  ·exact⟨none,0,0,d,by rw[f];rfl⟩
  ·exact⟨_,_,_,d,rfl⟩
 obtain⟨hvs,hvl⟩:=hvs
 subst hvl
 have hGo:∀(Q:Value→Own→Prop),(∀v' gr',Grow ρ el v' (xs++ys) gr'→Q v' (gr'++σ))→wpS C.P ρ (Builtin.append_ #[t,t'] ty #[v,.string (bs ys)]) (gr++σ) Q:=by
  intro Q hQ
  have w:∀{Q:Array Value→Own→Prop} {σ':Own},(∀cs,Rows ρ cs ys→Q cs.toArray σ')→wpS C.P ρ (Builtin.firstCells (Dat.k UInt8) ys.length (.string (bs ys))) σ' Q:=fun {Q σ'} hq=>by
   show Q (((bs ys).extract 0 ys.length).data.map fun (b:UInt8)=>Value.int .u8 (b.toNat:Int)) σ'
   rw[Acs,Qa,Air]
   have e:((bs ys).data.map fun (b:UInt8)=>Value.int .u8 (b.toNat:Int))=(ys.map fun (c:UInt8)=>Value.int .u8 (c.toNat:Int)).toArray:=by apply Array.ext';simp[bs]
   rw[e];exact hq _ (Ug _)
  rw[hvs]
  unfold Builtin.append_
  show wpS C.P ρ ((underlying t).bind _) _ _
  rw[Ad]
  refine Az hT ?_
  show wpS C.P ρ ((sizeOf el).bind _) _ _
  rw[Ad]
  refine Dx ⟨ti,hi,hik⟩ ?_
  show wpS C.P ρ ((underlying t').bind _) _ _
  rw[Ad]
  refine Az hT' ?_
  have M:∀{Q:Array Value→Own→Prop},(∀cs,Rows ρ cs xs→Q cs.toArray (gr++σ))→wpS C.P ρ (Builtin.firstCells (Dat.k UInt8) xs.length (.slice va xs.length vc)) (gr++σ) Q:=fun {Q} hq=>by
   rcases hv.2.2 with⟨d,f⟩|⟨r,cap,cs,rs,gb,d,f,l,n,H⟩
   ·subst f
    rw[hvs]at d
    simp only[lZ4,Value.slice.injEq]at d
    obtain⟨rfl,-,rfl⟩:=d
    exact hq [] rfl
   ·rw[hvs]at d;cases d
    show wpS C.P ρ (loadCells ⟨r,0,none⟩ (xs.length*Dat.k UInt8)) _ _
    rw[←l.len]
    refine Ff (a:=⟨r,0,none⟩) (o:=.cells (cs++rs).toArray el (0,0)) rfl (.inr (by rw[f];simp)) cs 0 #[] (fun j u hj=>?_) ?_
    ·simp only[Gy,Zp,Qx]
     rw[Alt (Mq.1 hj).1];exact hj
    ·have B:(#[]:Array Value)++cs.toArray=cs.toArray:=by simp
     rw[B];exact hq cs l
  by_cases hn:xs.length+ys.length≤vc
  ·show wpS C.P ρ (if xs.length+ys.length≤vc then (Builtin.firstCells (Dat.k UInt8) ys.length (.string (bs ys))).bind _ else _) _ _
   rw[if_pos hn,Ad]
   refine w fun cs' m=>?_
   rcases hv.2.2 with⟨d,f⟩|⟨r,cap,cs,rs,gb,d,f,l,n,H⟩
   ·subst f
    rw[hvs]at d
    simp only[lZ4,Value.slice.injEq]at d
    obtain⟨rfl,-,rfl⟩:=d
    have O:ys=[]:=Ain (by simpa using hn)
    subst O
    exact hQ _ gr ⟨hv.1,by simp,.inl ⟨rfl,rfl⟩⟩
   ·rw[hvs]at d;cases d
    show wpS C.P ρ ((storeCells ((⟨r,0,none⟩:Addr).add (xs.length*Dat.k UInt8)) cs'.toArray.toList).bind _) _ _
    rw[Ad,Ld,Bjp,Zp]
    have hl:xs.length*Dat.k UInt8+cs'.length≤(cs++rs).length:=by
     rw[n,m.len,←Aaj];exact Bjo _ hn
    refine Ns (r:=r) (i:=0) cs' ⟨r,xs.length*Dat.k UInt8,none⟩ 0 (cs++rs) (gr++σ) rfl rfl m.sgl (by rw[f];rfl) (by simpa using hl) ?_
    have D:over (cs++rs) (xs.length*Dat.k UInt8+0) cs'=(cs++cs')++(cs++rs).drop (xs.length*Dat.k UInt8+cs'.length):=by
     rw[Ato,Qe _ _ _ hl,←l.len,Awd,lZ9]
    have E:(gr++σ).set 0 (r,Res.obj (.cells (over (cs++rs) (xs.length*Dat.k UInt8+0) cs').toArray el (0,0)))=((r,Res.obj (.cells ((cs++cs')++(cs++rs).drop (xs.length*Dat.k UInt8+cs'.length)).toArray el (0,0)))::gb)++σ:=by
     rw[f,D];rfl
    simp only[]
    rw[E]
    refine hQ _ _ ⟨fun p hp=>?_,by rw[lZ0];omega,.inr ⟨r,vc,cs++cs',_,gb,by rw[lZ0,Oz],rfl,l.append m,?_,by rw[lZ0];exact hn⟩⟩
    ·rcases Nc.1 hp with rfl|hp
     ·exact⟨_,rfl⟩
     ·exact hv.1 p (by rw[f];exact lZ7 _ hp)
    ·rw[lZ0,lZ0,lZ5,←n,l.len]
     omega
  ·show wpS C.P ρ (if xs.length+ys.length≤vc then _ else (typeInfo el).bind _) _ _
   rw[if_neg hn,Ad]
   refine Gj hi ?_
   have J:¬(((xs.length+ys.length:Nat):Int)>IntKind.i64.max∧((false=true)∨ti.bytes=0)):=by
    intro⟨d,_⟩
    have:IntKind.i64.max=9223372036854775807:=by simp[IntKind.max,IntKind.signed,IntKind.bits]
    omega
   show wpS C.P ρ (if ((xs.length+ys.length:Nat):Int)>IntKind.i64.max∧((false=true)∨ti.bytes=0) then _ else (typeInfo el).bind _) _ _
   rw[if_neg J,Ad]
   refine Gj hi ?_
   have L:¬(Builtin.nextslicecap (xs.length+ys.length) vc*ti.bytes>2^48):=by
    have d:=Alk (need:=xs.length+ys.length) (cap:=vc) (by omega)
    have f:Builtin.nextslicecap (xs.length+ys.length) vc*ti.bytes≤(2*(xs.length+ys.length)+1000)*1000:=Bcj d hib
    omega
   show wpS C.P ρ (if Builtin.nextslicecap (xs.length+ys.length) vc*ti.bytes>2^48 then _ else (choose (.appendCap (xs.length+ys.length) vc el)).bind _) _ _
   rw[if_neg L,Ad]
   show (if (Question.appendCap (xs.length+ys.length) vc el).forced then _ else ∀tt,_)
   rw[if_neg (by simp[Question.forced])]
   intro tt
   have q:xs.length+ys.length≤(Question.appendCap (xs.length+ys.length) vc el).cut tt:=by simp[Question.cut]
   generalize (Question.appendCap (xs.length+ys.length) vc el).cut tt=nc at q
   show wpS C.P ρ ((typeInfo el).bind _) _ _
   rw[Ad]
   refine Gj hi ?_
   show wpS C.P ρ ((askRoom (nc*ti.bytes)).bind _) _ _
   rw[Ad]
   have N:∀{Q:Unit→Own→Prop} {σ':Own},Q () σ'→wpS C.P ρ (askRoom (nc*ti.bytes)) σ' Q:=fun hq=>by
    unfold askRoom
    split
    ·exact⟨rfl,hq⟩
    ·exact hq
   refine N ?_
   show wpS C.P ρ ((Builtin.firstCells (Dat.k UInt8) xs.length (.slice va xs.length vc)).bind _) _ _
   rw[Ad]
   refine M fun cs hcs=>?_
   show wpS C.P ρ ((Builtin.firstCells (Dat.k UInt8) ys.length (.string (bs ys))).bind _) _ _
   rw[Ad]
   refine w fun cs' m=>?_
   show wpS C.P ρ ((zeroValue el).bind _) _ _
   rw[Ad]
   refine Jz ⟨ti,hi,hz⟩ ?_
   show wpS C.P ρ ((newRow el (cs.toArray++cs'.toArray++Builtin.zeroCells z.cells (nc-(xs.length+ys.length)))).bind _) _ _
   rw[Ad]
   refine Ik fun r=>?_
   have F:(cs.toArray++cs'.toArray++Builtin.zeroCells z.cells (nc-(xs.length+ys.length)))=((cs++cs')++(Builtin.zeroCells z.cells (nc-(xs.length+ys.length))).toList).toArray:=by
    apply Array.ext';simp
   rw[F]
   refine hQ _ ((r,Res.obj (.cells ((cs++cs')++(Builtin.zeroCells z.cells (nc-(xs.length+ys.length))).toList).toArray el (0,0)))::gr) ⟨fun p hp=>?_,by rw[lZ0];omega,.inr ⟨r,nc,cs++cs',_,gr,by rw[lZ0,Oz],rfl,hcs.append m,?_,by rw[lZ0];exact q⟩⟩
   ·rcases Nc.1 hp with rfl|hp
    ·exact⟨_,rfl⟩
    ·exact hv.1 p hp
   ·have G:(Builtin.zeroCells z.cells (nc-(xs.length+ys.length))).toList.length=(nc-(xs.length+ys.length))*Dat.k UInt8:=by
     simp[Builtin.zeroCells,hzk]
    rw[lZ0,lZ0,hcs.len,m.len,G,←Aaj,←Aaj]
    congr 1;omega
 exact hGo _ h
end
end
section
open Go
theorem Aba{α:Type}{P:Program}{ρ:Ro}{σ:Own}{Q:α→Own→Prop}{c:Prop}[Decidable c]{a b:Sem α}(hc:¬c)(h:wpS P ρ b σ Q):wpS P ρ (if c then a else b) σ Q:=by rw[if_neg hc];exact h
theorem Bls{α:Type}{P:Program}{ρ:Ro}{σ:Own}{Q:α→Own→Prop}{c:Prop}[Decidable c]{a b:Sem α}(hc:c)(h:wpS P ρ a σ Q):wpS P ρ (if c then a else b) σ Q:=by rw[if_pos hc];exact h
theorem Ais(t t' ty:TypeId)(a:Addr)(n:Int):∃A B D:Sem Value,Builtin.unsafeString_ #[t,t'] ty #[.pointer (some a),.int .i64 n]=if n<0 then A else if n>IntKind.i64.max then B else if n=0 then Sem.pure (.string .empty) else
  (elemOf t).bind fun u=>(variablesAt a u n.toNat).bind fun ok=>if ok=true then (loadBytes a .empty n.toNat).bind fun s=>(freeze a n.toNat).bind fun _=>Sem.pure (.string s) else D:=⟨_,_,_,rfl⟩
theorem Bny{α}[Dat α]{ρ el v}{xs:List α}{gr}(h:Grow ρ el v xs gr)(hx:xs≠[]):∃cap,v = .slice (some ⟨Ahx v,0,none⟩) xs.length cap∧cap≠0:=by
 rcases h.2.2 with⟨_,a⟩|⟨r,cap,cs,rs,gb,b,a,c,d,e⟩
 ·exact absurd a hx
 ·subst b
  refine⟨cap,rfl,?_⟩
  have:0<xs.length:=Bja.2 hx
  omega
theorem Ayf{P ρ ρ₀ e ty t el x v}{xs:List UInt8}{gr}(hG:Grow ρ₀ el v xs gr)(hn:xs≠[])(hx:Af e x=v):Yld P ρ e (.call ⟨.builtin .unsafeSliceData,#[x],#[t]⟩) ty (.pointer (some ⟨Ahx v,0,none⟩)):=by
 obtain⟨cap,a,b⟩:=Bny hG hn
 generalize Ahx v=bl at a ⊢
 subst a
 refine Mc (args:=[x]) (vs:=[.slice (some ⟨bl,0,none⟩) xs.length cap]) (s:=fun _=>Builtin.unsafeSliceData_ #[t] ty #[.slice (some ⟨bl,0,none⟩) xs.length cap]) (by simp[hx]) (fun _=>rfl) fun ρ' σ cs _=>?_
 show wpS P ρ' (if cap≠0 then (Sem.pure (Value.pointer (some ⟨bl,0,none⟩))) else _) σ _
 rw[if_pos b]
 exact⟨rfl,rfl⟩
theorem Bvm{n cap}(h:n≤cap):liesAt Tryz.prog Tryz.prog.depth 5 (cap/Tryz.prog.cellsOf 5) 0 5 n=true:=by
 have a:(Tryz.prog.depth==0)=false:=by kernel_rfl
 have hs:sameLayout Tryz.prog Tryz.prog.depth 5 5=true:=by kernel_rfl
 have hc:Tryz.prog.cellsOf 5=1:=by kernel_rfl
 rw[hc,Nat.div_one]
 generalize hD:Tryz.prog.depth=D at *
 cases D with
 | zero=>cases a
 | succ d =>
  have hr:rowAt Tryz.prog (sameLayout Tryz.prog (d+1) · 5) (d+1) 5 cap 0 n=true:=by
   unfold rowAt
   simp only[hc,hs]
   simp[h]
  unfold liesAt
  rw[hD,hr];rfl
theorem Bqm{P:Program}{ρ:Ro}{σ:Own}{r:Nat}{o:Obj}(ho:Has ρ σ r o){Q:ByteArray→Own→Prop}:∀(l:List UInt8) (off:Nat) (acc:ByteArray),
  (∀j c,l[j]?=some c→Gy o (off+j)=some (.int .u8 (c.toNat:Int)))→Q (acc++bs l) σ→wpS P ρ (loadBytes ⟨r,off,none⟩ acc l.length) σ Q
 | [],off,acc,_,h=>by
  have e:acc++bs []=acc:=by apply ByteArray.ext;rw[ByteArray.data_append];simp[bs]
  rw[e]at h;exact h
 | c::l,off,acc,hc,h=>by
  show wpS P ρ ((load ⟨r,off,none⟩).bind _) σ Q
  rw[Ad]
  refine⟨rfl,rfl,o,_,ho,by simpa using hc 0 c rfl,?_⟩
  show wpS P ρ (loadBytes ⟨r,off+1,none⟩ (acc.push ((c.toNat:Int).toNat).toUInt8) l.length) σ Q
  refine Bqm ho l (off+1) _ (fun j d hd=>?_) ?_
  ·have:=hc (j+1) d (by simpa using hd)
   rw[show off+1+j=off+(j+1) by omega];exact this
  ·have e:acc.push ((c.toNat:Int).toNat).toUInt8++bs l=acc++bs (c::l):=by
    apply ByteArray.ext
    rw[ByteArray.data_append,ByteArray.data_append]
    show (acc.data.push _)++l.toArray=acc.data++(c::l).toArray
    rw[show ((c.toNat:Int).toNat).toUInt8=c by rw[Awf];exact UInt8.ofNat_toNat]
    apply Array.ext'
    simp
   rw[e];exact h
section
variable{C:Ctx}{e:Env}{ds:List Deferred}{ρ:Ro}{σ:Own}{K:Value→List Deferred→Ro→Own→Prop}{rd:Option Nat}{dd:Option Tmp}
variable{ty:TypeId}{pos:String}{af:Array Edge}{g:Option (Nat×Bool)}{x y:Operand}{v:Value}{t t':TypeId}
theorem Ani{xs gr el et}(hT:C.P.underlying t=some (.pointer et))(hn:xs≠[])(hG:Grow ρ el v xs gr)(hx:Af e x = .pointer (some ⟨Ahx v,0,none⟩))(hy:Af e y = .int .i64 (xs.length:Int))(hl:∀n cap,n≤cap→liesAt C.P C.P.depth el (cap/C.P.cellsOf el) 0 et n=true)(h:∀gr':Own,(∀p∈gr',∃o,p.2=Res.obj o)→K (.string (bs xs)) ds ρ (gr'++σ)):wpS C.P ρ (execOp (Af e) ⟨dd,.call ⟨.builtin .unsafeString,#[x,y],#[t,t']⟩,ty,pos,af,g⟩) (gr++σ) (NextH C K rd ds ρ):=by
 have m:(#[x,y]:Array Operand).map (Af e) = #[.pointer (some ⟨Ahx v,0,none⟩),.int .i64 (xs.length:Int)]:=by simp[hx,hy]
 show wpS C.P ρ (builtin .unsafeString #[t,t'] ty ((#[x,y]:Array Operand).map fun | .const _=>true|_=>false) ((#[x,y]:Array Operand).map (Af e))) _ _
 rw[m]
 show wpS C.P ρ ((Builtin.unsafeString_ #[t,t'] ty #[.pointer (some ⟨Ahx v,0,none⟩),.int .i64 (xs.length:Int)]).bind fun v=>Sem.pure (Next.value v)) _ _
 refine Gd ?_
 have w:0<xs.length:=Bja.2 hn
 have hlt:=hG.2.1
 rcases hG.2.2 with⟨_,a⟩|⟨r,cap,cs,rs,gb,i,a,b,k,l⟩
 ·exact absurd a hn
 ·have hb:Ahx v=r:=by rw[i];rfl
  rw[hb]
  have ho:Has ρ (gr++σ) r (.cells (cs++rs).toArray el (0,0)):=.inr (by rw[a];simp)
  have hcl:cs.length=xs.length:=by rw[b.len];exact Ahr _
  have hcs:cs=xs.map fun c:UInt8=>Value.int .u8 (c.toNat:Int):=Atv b
  have q:(cs++rs).length=cap:=by rw[k];exact Ahr _
  obtain⟨A,B,D,key⟩:=Ais t t' ty ⟨r,0,none⟩ (xs.length:Int)
  rw[key]
  refine Aba (c:=(xs.length:Int)<0) (by omega) ?_
  refine Aba (c:=(xs.length:Int)>IntKind.i64.max) (by show ¬_>(9223372036854775807:Int);omega) ?_
  refine Aba (c:=(xs.length:Int)=0) (by omega) ?_
  show wpS C.P ρ ((elemOf t).bind fun u=>(variablesAt ⟨r,0,none⟩ u (xs.length:Int).toNat).bind _) _ _
  rw[Ad]
  show wpS C.P ρ ((underlying t).bind _) _ _
  rw[Ad]
  refine Az hT ?_
  show wpS C.P ρ ((variablesAt ⟨r,0,none⟩ et (xs.length:Int).toNat).bind _) _ _
  rw[Ad]
  unfold variablesAt
  show wpS C.P ρ (program.bind _) _ _
  rw[Ad]
  show wpS C.P ρ ((shape r).bind _) _ _
  rw[Ad]
  refine⟨_,ho,?_⟩
  simp only[Xk]
  rw[show (cs++rs).toArray.size=cap by rw[←q];simp,Awf]
  refine Bls (c:=liesAt C.P C.P.depth el (cap/C.P.cellsOf el) 0 et xs.length=true) (hl _ _ l) ?_
  show wpS C.P ρ ((loadBytes ⟨r,0,none⟩ .empty xs.length).bind _) _ _
  rw[Ad]
  refine Bqm ho xs 0 _ (fun j c hj=>?_) ?_
  ·simp only[Gy,Zp,Qx]
   rw[Alt (by rw[hcl];exact(Mq.1 hj).1),hcs,Vl,hj];rfl
  ·have d:ByteArray.empty++bs xs=bs xs:=by apply ByteArray.ext;rw[ByteArray.data_append];show #[]++_=_;simp
   rw[d]
   show wpS C.P ρ ((freeze ⟨r,0,none⟩ xs.length).bind _) _ _
   rw[Ad]
   refine .inr ⟨by omega,0,_,el,0,0,by rw[a];rfl,?_⟩
   show K (.string (bs xs)) ds ρ _
   have f:∀o:Res,(gr++σ).set 0 (r,o)=((r,o)::gb)++σ:=fun o=>by rw[a];rfl
   rw[f]
   exact h _ fun p hp=>by
    rcases Nc.1 hp with rfl|hp
    ·exact⟨_,rfl⟩
    ·exact hG.1 p (by rw[a];exact lZ7 _ hp)
end
end
section
open Go
variable{mn:Bool}{X:Frame→List Frame→Ro→Own→Cy→Prop}{ρ:Ro}{σ:Own}
theorem Adx{r}{xs:List UInt8}{vb gb}(hb:Grow ρ 5 vb xs gb):CallsH (CX mn X) 84 #[pV r] ρ ((r,oC #[.pointer none,vb] 83)::(gb++σ)) (fun w ρ' σ'=>ρ'=ρ∧σ'=(r,oC #[pV r,vb] 83)::(gb++σ)∧w = .tuple #[]):=by
 refine Bq 20 [] Bzo rfl fun Q d a=>w_q rfl rfl fun c b=>Av (pV r) (l_v (Ck rfl) (l_v (Je Bxt rfl (Ab Byu)) (Arv (Dt (i:=0) ⟨_,Byf,rfl⟩ rfl rfl rfl ?_))))
 refine l_v (Ayd Byf rfl rfl) (l_k b (Et (Bf (Av _ (Av _ (Arv (Bgk (i:=0) Byf Tryz.underlying174 ⟨_,Ab Bzm,rfl⟩ (by decide) rfl rfl nL ?_)))))))
 refine Alw rfl Tryz.func114 rfl rfl rfl rfl (Aht rfl) Bic (Arv (Bpo (i:=0) Tryz.underlying174 Byf ⟨_,Ab Bzm,rfl⟩ (by decide) rfl rfl (by kernel_rfl) ?_))
 refine l_v (Ck rfl) (l_v (Je Bxt rfl (Ab Byu)) (Ee (Cz (j:=0) ⟨_,Ab Byu,rfl⟩ rfl rfl rfl rfl nL ?_)))
 apply Ac
 refine a ⟨rfl,rfl,rfl⟩
theorem Ast{r}{xs:List UInt8}{vb gb}(hb:Grow ρ 5 vb xs gb):CallsH (CX mn X) 84 #[pV r] ρ ((r,oC #[pV r,vb] 83)::(gb++σ)) (fun w ρ' σ'=>ρ'=ρ∧σ'=(r,oC #[pV r,vb] 83)::(gb++σ)∧w = .tuple #[]):=by
 refine Bq 20 [] Bzo rfl fun Q f a=>w_q rfl rfl fun d b=>Av (pV r) (l_v (Ck rfl) (l_v (Je Bxt rfl (Ab Byu)) (Arv (Dt (i:=0) ⟨_,Byf,rfl⟩ rfl rfl rfl ?_))))
 refine l_v (Ayd Byf rfl rfl) (l_k b (Dy rfl (Cr fun e c=>Av (pV r) (l_v (Ck rfl) (l_v (Je Bxt rfl (Ab Byu)) (Arv (Dt (i:=0) ⟨_,Byf,rfl⟩ rfl rfl rfl ?_)))))))
 refine Av _ (l_v (Bpz Byf ⟨_,Ab Bzm,rfl⟩ (by decide) rfl rfl) (l_k c (Dy rfl (Al (a ⟨rfl,rfl,rfl⟩)))))
theorem Akm{r xs vb gb s}(hb:Grow ρ 5 vb xs gb)(hx:xs.length+s.length≤1000000000):CallsH (CX mn X) 31 #[pV r,.string (bs s)] ρ ((r,oC #[.pointer none,vb] 83)::(gb++σ)) (fun w ρ' σ'=>ρ'=ρ∧∃(v':Value) (gr:Own),w = .tuple #[iV (s.length:Int),.nilIface]∧Grow ρ 5 v' (xs++s) gr∧σ'=(r,oC #[pV r,v'] 83)::(gr++σ)):=by
 refine Bq 19 [4,5] Byq rfl fun Q e u=>w_q rfl rfl fun m g=>Au (iV 0) (Au _ (Dr g fun n h=>Av (pV r) (Bj (Cai Asc) (Bj (Cai Asd) (Arv (Fj (Adx hb) Bzo ⟨rfl,trivial⟩ fun x y z d=>?_))))))
 obtain⟨a,b,f⟩:=d
 replace a:=a.symm;replace b:=b.symm;subst a b f
 refine Dr h fun p k=>Av (pV r) (Av _ (l_v (Ck rfl) (l_v (Je Bxt rfl (Ab Bxu)) (Arv (Dt (i:=0) ⟨_,Bxe,rfl⟩ rfl rfl rfl ?_)))))
 refine Av _ (Bj (Cai Asc) (Arv (Aig (ys:=s) Bxe Bwz (Ab Bzn) rfl nL rfl rfl rfl rfl hb (by omega) fun v t c=>?_)))
 refine l_v (Ck rfl) (l_v (Je Bxt rfl (Ab Bxu)) (Bj (Cai Asd) (Ee (Cz (j:=0) ⟨_,Ab Bxu,rfl⟩ rfl rfl (Cak c) rfl nL ?_))))
 refine Dr k fun q l=>Av (.string (bs s)) (l_v (Ga Bwz rfl) (Au _ (Au _ (l_k l (Aq (e ⟨rfl,_,_,Mp ⟨rfl,rfl,trivial⟩,c,rfl⟩))))))
theorem Sf{r xs vb gb s}(hb:Grow ρ 5 vb xs gb)(hx:xs.length+s.length≤1000000000):CallsH (CX mn X) 31 #[pV r,.string (bs s)] ρ ((r,oC #[pV r,vb] 83)::(gb++σ)) (fun w ρ' σ'=>ρ'=ρ∧∃(v':Value) (gr:Own),w = .tuple #[iV (s.length:Int),.nilIface]∧Grow ρ 5 v' (xs++s) gr∧σ'=(r,oC #[pV r,v'] 83)::(gr++σ)):=by
 refine Bq 19 [4,5] Byq rfl fun Q e u=>w_q rfl rfl fun m g=>Au (iV 0) (Au _ (Dr g fun n h=>Av (pV r) (Bj (Cai Asc) (Bj (Cai Asd) (Arv (Fj (Ast hb) Bzo ⟨rfl,trivial⟩ fun x y z d=>?_))))))
 obtain⟨a,b,f⟩:=d
 replace a:=a.symm;replace b:=b.symm;subst a b f
 refine Dr h fun p k=>Av (pV r) (Av _ (l_v (Ck rfl) (l_v (Je Bxt rfl (Ab Bxu)) (Arv (Dt (i:=0) ⟨_,Bxe,rfl⟩ rfl rfl rfl ?_)))))
 refine Av _ (Bj (Cai Asc) (Arv (Aig (ys:=s) Bxe Bwz (Ab Bzn) rfl nL rfl rfl rfl rfl hb (by omega) fun v t c=>?_)))
 refine l_v (Ck rfl) (l_v (Je Bxt rfl (Ab Bxu)) (Bj (Cai Asd) (Ee (Cz (j:=0) ⟨_,Ab Bxu,rfl⟩ rfl rfl (Cak c) rfl nL ?_))))
 refine Dr k fun q l=>Av (.string (bs s)) (l_v (Ga Bwz rfl) (Au _ (Au _ (l_k l (Aq (e ⟨rfl,_,_,Mp ⟨rfl,rfl,trivial⟩,c,rfl⟩))))))
theorem Brg{r}{xs:List UInt8}{vb gb}(hb:Grow ρ 5 vb xs gb):CallsH (CX mn X) 35 #[pV r] ρ ((r,oC #[pV r,vb] 83)::(gb++σ)) (fun w ρ' σ'=>ρ'=ρ∧σ'=(r,oC #[pV r,vb] 83)::(gb++σ)∧w=iV (xs.length:Int)):=by
 refine Bq 8 [2] Tryz.func35 rfl fun Q a f=>w_q rfl rfl fun d b=>Au (iV 0) (Dr b fun e c=>Av (pV r) (l_v (Ck rfl) (l_v (Je Bxt rfl (Ab Bxu)) (Arv (Dt (i:=0) ⟨_,Bxe,rfl⟩ rfl rfl rfl ?_)))))
 refine l_v (Ajw Bxe rfl hb) (Au _ (l_k c (Aq (a ⟨rfl,rfl,rfl⟩))))
theorem Aqa{r xs vb gb}(hb:Grow ρ 5 vb xs gb)(hne:xs≠[]):CallsH (CX mn X) 36 #[pV r] ρ ((r,oC #[pV r,vb] 83)::(gb++σ)) (rP ρ σ (.string (bs xs))):=by
 refine Bq 14 [2] Tryz.func36 rfl fun Q b i=>w_q rfl rfl fun e c=>Au (.string (ByteArray.mk #[])) (Asa c fun f d=>Oj ((r,oC #[pV r,vb] 83)::[]) [0,1,2,3,4,5,6,7,8,9,10,11] (by kernel_rfl) rfl rfl (Df 0 (zT 1 11) rfl ⟨Cal,sB⟩ rfl (Yld.o (Ah rfl)) (Df 1 (zT 2 10) rfl ⟨Cal,sB⟩ rfl (Yld.o (Ck rfl)) (Df 2 (zT 3 9) rfl ⟨Cal,sB⟩ rfl (Yld.o (Je Bxt rfl (Ab Bxu))) (Df 3 (zT 4 8) rfl ⟨Cal,sB⟩ rfl (Hv ⟨_,Bxe,rfl⟩ rfl mC rfl) (Df 5 [o1,o1,o1,o1,o0,o1,o0,o0,o0,o0,o0,o0] rfl ⟨Cal,sB⟩ rfl (Yld.o (Ah rfl)) (Df 6 [o1,o1,o1,o1,o0,o1,o1,o0,o0,o0,o0,o0] rfl ⟨Cal,sB⟩ rfl (Yld.o (Ck rfl)) (Df 7 [o1,o1,o1,o1,o0,o1,o1,o1,o0,o0,o0,o0] rfl ⟨Cal,sB⟩ rfl (Yld.o (Je Bxt rfl (Ab Bxu))) (Df 8 [o1,o1,o1,o1,o0,o1,o1,o1,o1,o0,o0,o0] rfl ⟨Cal,sB⟩ rfl (Hv ⟨_,Bxe,rfl⟩ rfl mC rfl) ?_)))))))))
 refine Df 9 [o1,o1,o1,o1,o0,o1,o1,o1,o1,o1,o0,o0] rfl ⟨Cal,sB⟩ rfl (Yld.o (Ajw Bxe rfl hb)) (Fc 4 (zT 10 2) rfl ⟨Cal,sB⟩ rfl (Yld.o (Ayf hb hne rfl)) ⟨Cal,sB⟩ (Lg Asc (Lp 10 (zT 11 1) rfl rfl (Ani Tryz.underlying165 hne hb rfl rfl (fun _ _ h=>Bvm h) fun g a=>⟨⟨Cal,sB⟩,?_⟩))))
 refine Fc 11 (zT 12 0) rfl ⟨Cal,sB⟩ rfl (Yld.o (Cp rfl)) ⟨Cal,sB⟩ (Te rfl (kk d ?_))
 refine Aj (drops a) (Aj Cag (Aq (b (rT _ ?_))))
 rfl
end
section
open Go
section
variable{e:Env}{ρ:Ro}{xs:Array Operand}{vs:Array Value}{tys:Array TypeId}{ty:TypeId}{f:FuncId}{fn:Func}{G:Array Value→Sem Value}
theorem Bdj{P σ Q}(hf:P.funcs[f]?=some fn)(hn:(fn.name == "runtime.NumGoroutine")=false)(hb:fn.body.isNone=true)(hx0:Extern.findNext fn=none)(he:Extern.find fn=some G)(h:wpS P ρ (G vs) σ (fun v σ'=>Q (.value v) σ')):wpS P ρ (callFunc f vs) σ Q:=by
 unfold callFunc
 show wpS P ρ ((program).bind _) σ Q
 rw[Ad]
 show wpS P ρ (match P.funcs[f]? with|none=>_|some fn=>_) σ Q
 rw[hf]
 simp only[hn,hb]
 show wpS P ρ ((Go.mark (.extern f)).bind _) σ Q
 rw[Ad]
 refine⟨trivial,?_⟩
 simp only[hx0,he]
 show wpS P ρ ((G vs).bind fun v=>Sem.pure (Next.value v)) σ Q
 rw[Ad]
 exact h
theorem Bia(e:Env)(hx:xs.map (Af e)=vs)(d:Option Tmp)(pos:String)(af:Array Edge)(g:Option (Nat×Bool)):execOp (Af e) ⟨d,.call ⟨.value (.func f),xs,tys⟩,ty,pos,af,g⟩=callFunc f vs:=by
 show callFunc f ((#[]++xs.map (Af e)) ++ #[])=_
 rw[Apl,Alv,hx]
theorem Aih{C ds σ K rd dd pos af g}(hf:C.P.funcs[f]?=some fn)(hn:(fn.name == "runtime.NumGoroutine")=false)(hb:fn.body.isNone=true)(hx0:Extern.findNext fn=none)(he:Extern.find fn=some G)(hx:xs.map (Af e)=vs)(h:wpS C.P ρ (G vs) σ (fun v σ'=>K v ds ρ σ')):wpS C.P ρ (execOp (Af e) ⟨dd,.call ⟨.value (.func f),xs,tys⟩,ty,pos,af,g⟩) σ (NextH C K rd ds ρ):=by
 rw[Bia e hx]
 exact Bdj hf hn hb hx0 he h
end
theorem Axd{α:Type}[Dat α]{ρ:Ro}:∀{xs ys:List α} {cs:List Value},Rows ρ cs (xs++ys)→∃c1 c2,cs=c1++c2∧Rows ρ c1 xs∧Rows ρ c2 ys
 | [],ys,cs,h=>⟨[],cs,rfl,rfl,h⟩
 | x::xs,ys,cs,⟨c1,c2,h1,h2,h3⟩=>by
  obtain⟨d1,d2,g1,g2,g3⟩:=Axd (xs:=xs) h3
  exact⟨c1++d1,d2,by rw[h1,g1,lZ9],⟨c1,d1,rfl,h2,g2⟩,g3⟩
theorem Akv:∀(n t:Nat) (acc:Array Value),∃ys:List UInt8,ys.length=n∧(Extern.BytealgMakeNoZero.digits n t acc)=acc++(ys.map fun c:UInt8=>Value.int .u8 (c.toNat:Int)).toArray
 | 0,t,acc=>⟨[],rfl,by simp[Extern.BytealgMakeNoZero.digits]⟩
 | n+1,t,acc=>by
  obtain⟨ys,h1,h2⟩:=Akv n (t/256) (acc.push (.int .u8 (Int.ofNat (t%256))))
  refine⟨UInt8.ofNat (t%256)::ys,by simp[h1],?_⟩
  show Extern.BytealgMakeNoZero.digits n (t/256) (acc.push (.int .u8 (Int.ofNat (t%256))))=_
  rw[h2]
  apply Array.ext'
  have:(UInt8.ofNat (t%256)).toNat=t%256:=by simp
  simp[this]
theorem Bpr{P ρ σ Q ps t el n}(hT:P.underlying t=some (.slice el))(hn:n<2^30)(h:∀v gr (ys:List UInt8),ys.length=n→Grow ρ el v ys gr→Q v (gr++σ)):wpS P ρ (Extern.BytealgMakeNoZero.makeNoZero ps #[t] #[.int .i64 (n:Int)]) σ Q:=by
 unfold Extern.BytealgMakeNoZero.makeNoZero
 show wpS P ρ ((underlying t).bind _) σ Q
 rw[Ad]
 refine Az hT ?_
 simp only[]
 have a:¬((decide ((n:Int)<0)||decide ((n:Int)>2^48))=true):=by
  rw[Jw (by omega),Jw (by omega)];simp
 rw[if_neg a]
 show wpS P ρ ((choose (.appendCap (n:Int).toNat 0 el)).bind _) σ Q
 rw[Ad,Awf]
 show (if (Question.appendCap n 0 el).forced then _ else ∀tt,_)
 rw[if_neg (by simp[Question.forced])]
 intro tt
 have e:n≤(Question.appendCap n 0 el).cut tt:=by simp[Question.cut]
 generalize (Question.appendCap n 0 el).cut tt=nc at e
 show wpS P ρ ((askRoom nc).bind _) σ Q
 rw[Ad]
 have f:∀{Q:Unit→Own→Prop} {σ':Own},Q () σ'→wpS P ρ (askRoom nc) σ' Q:=fun hq=>by
  unfold askRoom
  split
  ·exact⟨rfl,hq⟩
  ·exact hq
 refine f ?_
 show wpS P ρ ((choose (.extern "internal/bytealg.MakeNoZero.bytes" 0)).bind _) σ Q
 rw[Ad]
 have hch:∀{q:Question} {Q:Nat→Own→Prop} {σ':Own},(∀t,Q t σ')→wpS P ρ (choose q) σ' Q:=fun {q} {Q} {σ'} hq=>by
  show (if q.forced then _ else ∀t,_)
  split
  ·exact hq _
  ·exact fun t=>hq _
 refine hch fun bytes=>?_
 show wpS P ρ ((newRow el (Extern.BytealgMakeNoZero.digits nc bytes #[])).bind _) σ Q
 rw[Ad]
 refine Ik fun r=>?_
 obtain⟨ys,b,d⟩:=Akv nc bytes #[]
 rw[d,Alv]
 refine h (.slice (some ⟨r,0,none⟩) n nc) [_] (ys.take n) (by rw[lZ6];omega) ⟨fun p hp=>?_,by rw[lZ6];omega,.inr ⟨r,nc,(ys.take n).map fun c:UInt8=>Value.int .u8 (c.toNat:Int),(ys.drop n).map fun c:UInt8=>Value.int .u8 (c.toNat:Int),[],?_,?_,Ug _,?_,?_⟩⟩
 ·rw[Sl]at hp;subst hp;exact⟨_,rfl⟩
 ·rw[lZ6,Aqr (by omega)]
 ·rw[←Ql,Aip]
 ·rw[←Ql,Aip,Xp,b];exact(Ahr _).symm
 ·rw[lZ6];omega
section
variable{C:Ctx}{e:Env}{ds:List Deferred}{ρ:Ro}{σ:Own}{K:Value→List Deferred→Ro→Own→Prop}{rd:Option Nat}{dd:Option Tmp}
variable{ty:TypeId}{pos:String}{af:Array Edge}{g:Option (Nat×Bool)}{x y:Operand}{v:Value}{t t':TypeId}
theorem Bwd{f fn tys el}{n:Nat}(hf:C.P.funcs[f]?=some fn)(hn:(fn.name == "runtime.NumGoroutine")=false)(hb:fn.body.isNone=true)(hx0:Extern.findNext fn=none)(he:Extern.find fn=some (Extern.BytealgMakeNoZero.makeNoZero fn.params fn.resultTypes))(hr:fn.resultTypes = #[t])(hT:C.P.underlying t=some (.slice el))(hx:Af e x = .int .i64 (n:Int))(hlt:n<2^30)(h:∀v gr (ys:List UInt8),ys.length=n→Grow ρ el v ys gr→K v ds ρ (gr++σ)):wpS C.P ρ (execOp (Af e) ⟨dd,.call ⟨.value (.func f),#[x],tys⟩,ty,pos,af,g⟩) σ (NextH C K rd ds ρ) :=
 Aih hf hn hb hx0 he (Aht hx) (by rw[hr];exact Bpr hT hlt h)
theorem Grow.part{α}[Dat α]{el a len cap h}{xs:List α}{gr}(hG:Grow ρ el (.slice a len cap) xs gr)(hh:h≤xs.length):Grow ρ el (.slice a h cap) (xs.take h) gr:=by
 rcases hG.2.2 with⟨d,e⟩|⟨r,k,cs,rs,gb,d,e,i,j,m⟩
 ·subst e
  have:h=0:=by simpa using hh
  subst this
  cases d
  exact⟨hG.1,by simp,.inl ⟨rfl,rfl⟩⟩
 ·cases d
  obtain⟨b,c,f,g,l⟩:∃b c,cs=b++c∧Rows ρ b (xs.take h)∧Rows ρ c (xs.drop h):=by
   have:=i
   rw[←Aip h xs]at this
   exact Axd this
  refine⟨hG.1,by have:=hG.2.1;rw[lZ6];omega,.inr ⟨r,cap,b,c++rs,gb,by rw[lZ6,Aqr hh],by rw[e,f,lZ9],g,by rw[←j,f,lZ9],by rw[lZ6];omega⟩⟩
theorem Aos{P α}[Dat α]{xs:List α}{gr el k q}(h:Nat)(hT:P.underlying t=some (.slice el))(hE:∃i,P.info? el=some i∧i.size=Dat.k α)(hx:Af e x=v)(hv:Grow ρ el v xs gr)(hy:Af e y = .int k q)(hq:q=(h:Int))(hh:h≤xs.length):
  ∃w,Grow ρ el w (xs.take h) gr∧Yld P ρ e (.slice t x none (some y) none) ty w:=by
 obtain⟨a,len,cap,b,c,d⟩:∃a len cap,v = .slice a len cap∧len=xs.length∧len≤cap:=by
  rcases hv.2.2 with⟨b,c⟩|⟨r,cap,cs,rs,gb,b,c,d,g,f⟩
  ·exact⟨none,0,0,b,by simp[c],Lb _⟩
  ·exact⟨_,_,_,b,rfl,f⟩
 subst b
 refine⟨_,hv.part hh,Mt (s:=Instr.sliceAt t (Af e x) none (some (Af e y)) none) (fun _ _ _ _=>rfl) fun ρ' σ _=>?_⟩
 rw[hx,hy,hq]
 show wpS P ρ' ((underlying t).bind _) σ _
 rw[Ad]
 refine Az hT ?_
 show wpS P ρ' ((underlying t).bind _) σ _
 rw[Ad]
 refine Az hT ?_
 simp only[]
 show wpS P ρ' ((Instr.sliceBounds true len cap none (some (.int k h)) none).bind _) σ _
 have hb:Instr.sliceBounds true len cap none (some (.int k (h:Int))) none=pure (0,h,cap):=by
  show (do let m ←pure cap;let hh ←Instr.sliceBound (.int k (h:Int)) m _;let l ←pure 0;pure (l,hh,m):Sem _)=_
  have:Instr.sliceBound (.int k (h:Int)) cap .sliceAcap=pure h:=by
   show (if 0≤(h:Int)∧(h:Int)≤cap then pure (h:Int).toNat else _)=_
   rw[if_pos (by omega)];simp
  show (Instr.sliceBound (.int k (h:Int)) cap .sliceAcap).bind _=_
  rw[this];rfl
 rw[hb]
 show wpS P ρ' ((sizeOf el).bind _) σ _
 rw[Ad]
 refine Dx hE ⟨?_,rfl⟩
 by_cases hc:cap=0
 ·simp[hc]
 ·cases a with
  | none=>simp[hc]
  | some ad=>simp[hc,Addr.add]
/-- Nothing is copied to the beginning of a slice. -/
theorem Bpx{P ty t1 t2 el a cap k}(hT:P.underlying t1=some (.slice el))(hE:∃i,P.info? el=some i∧i.size=k)(hx:Af e x = .slice a 0 cap)(hy:Af e y = .slice none 0 0):Yld P ρ e (.call ⟨.builtin .copy,#[x,y],#[t1,t2]⟩) ty (.int .i64 0):=by
 refine Mc (args:=[x,y]) (vs:=[.slice a 0 cap,.slice none 0 0]) (s:=fun _=>Builtin.copy_ #[t1,t2] ty #[.slice a 0 cap,.slice none 0 0]) (by simp[hx,hy]) (fun _=>rfl) fun ρ' σ cs _=>?_
 unfold Builtin.copy_
 show wpS P ρ' ((underlying t1).bind _) σ _
 rw[Ad]
 refine Az hT ?_
 simp only[]
 show wpS P ρ' ((sizeOf el).bind _) σ _
 rw[Ad]
 refine Dx hE ?_
 cases a<;>exact⟨rfl,rfl⟩
theorem Bpw{P α}[Dat α]{ty t1 t2 el gr k}(hT:P.underlying t1=some (.slice el))(hE:∃i,P.info? el=some i∧i.size=k)(hG:Grow ρ el v ([]:List α) gr)(hx:Af e x=v)(hy:Af e y = .slice none 0 0):Yld P ρ e (.call ⟨.builtin .copy,#[x,y],#[t1,t2]⟩) ty (.int .i64 0):=by
 rcases hG.2.2 with⟨a,b⟩|⟨r,cap,cs,rs,gb,a,b,c,d,f⟩<;>subst a<;>exact Bpx hT hE hx hy
theorem Blw{P ty el a n k}(hT:P.underlying t=some (.slice el))(hx:Af e x = .slice a n k):Yld P ρ e (.call ⟨.builtin .cap,#[x],#[t]⟩) ty (.int .i64 (k:Int)):=by
 refine Mc (args:=[x]) (vs:=[.slice a n k]) (s:=fun _=>Builtin.cap_ #[t] ty #[.slice a n k]) (by simp[hx]) (fun _=>rfl) fun ρ' σ cs _=>?_
 show wpS P ρ' ((underlying t).bind _) σ _
 rw[Ad]
 refine Az hT ?_
 exact⟨rfl,rfl⟩
end
end
section
open Go
theorem Blz:Fw Tryz.prog 83 (.agg #[.pointer none,.slice none 0 0]):=⟨_,Ab Bzm,rfl⟩
theorem Avx:∀{ws:List (List UInt8)},ws≠[]→(Ho ws).length=ws.flatten.length+(ws.length-1)
 | [],h=>absurd rfl h
 | [w],_=>by simp[Ho]
 | w::v::ws,_=>by
  have h:=Avx (ws:=v::ws) (by simp)
  show (w++32::Ho (v::ws)).length=_
  simp only[lZ0,lZ3,Bjc]at h ⊢
  omega
theorem Afx{ws:List (List UInt8)}{i w}(h:ws[i]?=some w):(ws.take (i+1)).flatten.length=(ws.take i).flatten.length+w.length:=by
 rw[Awa,h]
 simp
theorem Abj{ws:List (List UInt8)}{i}:(ws.take i).flatten.length≤ws.flatten.length:=by
 conv=>rhs;rw[←Aip i ws]
 rw[List.flatten_append,lZ0]
 omega
theorem Bis{ws a}(h1:ws.length=1)(h:ws[0]?=some a):Ho (wl ws)=a.data.toList:=by
 match ws,h1 with
 | [b],_ =>
  obtain rfl:b=a:=by simpa using h
  rfl
theorem Azr{ws:List ByteArray}{a}(h:ws[0]?=some a):Ho (wl (ws.take 1))=a.data.toList:=by
 match ws,h with
 | b::r,h =>
  obtain rfl:b=a:=by simpa using h
  rfl
theorem Bev{ws:List ByteArray}{a j}(h:(ws.drop 1)[j]?=some a):Ho (wl (ws.take (j+1)))++[32]++a.data.toList=Ho (wl (ws.take (j+1+1))):=by
 rw[Yz]at h
 rw[Auc,Auc,Agh (i:=j+1) (Pw (by rw[Awe];exact h)),if_neg (by omega)]
 simp
theorem Bbt{ws j}:(Ho (wl (ws.take j))).length≤(Ho (wl ws)).length:=by rw[Auc];exact Aqq
theorem Bos{n}(h0:1≤n)(h:n≤1000000000000):2≤9223372036854775807/n:=by
 rw[Nat.le_div_iff_mul_le (by omega)];omega
end
section
open Go
variable{mn:Bool}{X:Frame→List Frame→Ro→Own→Cy→Prop}{ρ:Ro}{σ:Own}
theorem Bmx{r n:Nat}(hn:n≤1000000000):CallsH (CX mn X) 115 #[pV r,iV n] ρ ((r,oC #[pV r,nS] 83)::σ) (fun w ρ' σ'=>ρ'=ρ∧w = .tuple #[]∧∃(v':Value) (gr:Own),Grow ρ 5 v' ([]:List UInt8) gr∧σ'=(r,oC #[pV r,v'] 83)::(gr++σ)):=by
 refine Bq 30 [] Tryz.func115 rfl fun Q k d=>Ai fun g e=>Oj ((r,oC #[pV r,nS] 83)::[]) [0,1,2,3,4,5,6,7,9,10,11,12,13] (by kernel_rfl) rfl rfl (Df 0 (zT 1 15) rfl ⟨Cal,sB⟩ rfl (Yld.o (Ah rfl)) (Df 1 (zT 2 14) rfl ⟨Cal,sB⟩ rfl (Yld.o (Ck rfl)) (Df 2 (zT 3 13) rfl ⟨Cal,sB⟩ rfl (Yld.o (Je Bxt rfl (Ab Bxu))) (Df 3 (zT 4 12) rfl ⟨Cal,sB⟩ rfl (Hv ⟨_,Bxe,rfl⟩ rfl mC rfl) (Df 4 (zT 5 11) rfl ⟨Cal,sB⟩ rfl (Yld.o (Blw Bxe rfl)) (Df 5 (zT 6 10) rfl ⟨Cal,sB⟩ rfl (Yld.o (Wq rfl rfl wrE)) (Df 6 (zT 7 9) rfl ⟨Cal,sB⟩ rfl (Yld.o (Ah rfl)) (Df 7 (zT 8 8) rfl ⟨Cal,sB⟩ rfl (Yld.o (Dm _)) (Df 9 [o1,o1,o1,o1,o1,o1,o1,o1,o0,o1,o0,o0,o0,o0,o0,o0] rfl ⟨Cal,sB⟩ rfl (Yld.o (Ah rfl)) (Df 10 [o1,o1,o1,o1,o1,o1,o1,o1,o0,o1,o1,o0,o0,o0,o0,o0] rfl ⟨Cal,sB⟩ rfl (Yld.o (Ck rfl)) (Df 11 [o1,o1,o1,o1,o1,o1,o1,o1,o0,o1,o1,o1,o0,o0,o0,o0] rfl ⟨Cal,sB⟩ rfl (Yld.o (Je Bxt rfl (Ab Bxu))) (Df 12 [o1,o1,o1,o1,o1,o1,o1,o1,o0,o1,o1,o1,o1,o0,o0,o0] rfl ⟨Cal,sB⟩ rfl (Hv ⟨_,Bxe,rfl⟩ rfl mC rfl) (Df 13 [o1,o1,o1,o1,o1,o1,o1,o1,o0,o1,o1,o1,o1,o1,o0,o0] rfl ⟨Cal,sB⟩ rfl (Yld.o (Bbf Bxe rfl)) (Lp 8 (zT 14 2) rfl rfl (Bwd Tryz.func136 rfl rfl rfl rfl rfl Bxe rfl (by omega) fun m i p l c=>⟨⟨Cal,sB⟩,?_⟩)))))))))))))))
 refine Ri 14 (zT 15 1) rfl ⟨Cal,sB⟩ rfl (Qj (Aos 0 Bxe ty5.2 rfl c rfl rfl (by omega))) ⟨Cal,sB⟩ fun b a=>Fc 15 (zT 16 0) rfl ⟨Cal,sB⟩ rfl (Yld.o (Cp rfl)) ⟨Cal,sB⟩ (Te rfl (kk e ?_))
 refine Cr fun h f=>Av b (Av _ (l_v (Ck rfl) (l_v (Je Bxt rfl (Ab Bxu)) (Arv (Gu ⟨_,Bxe,rfl⟩ rfl (Pz _ mC) rfl ?_)))))
 refine l_v (Bpw Bxe ty5.2 (Fy Azy a) rfl rfl) (l_k f (Bf (Av (pV r) (Av b (l_v (Ck rfl) (l_v (Je Bxt rfl (Ab Bxu)) (Bj (Cai Asd) (Ee (Cz (j:=0) ⟨_,Ab Bxu,rfl⟩ rfl rfl (Cak (Fy Azy a)) rfl nL ?_)))))))))
 apply Ac
 refine d ⟨rfl,rfl,_,_,Fy Azy a,rfl⟩
theorem Bmo{r n:Nat}(hn:n≤1000000000):CallsH (CX mn X) 85 #[pV r,iV n] ρ ((r,oC #[.pointer none,nS] 83)::σ) (fun w ρ' σ'=>ρ'=ρ∧w = .tuple #[]∧∃(v':Value) (gr:Own),Grow ρ 5 v' ([]:List UInt8) gr∧σ'=(r,oC #[pV r,v'] 83)::(gr++σ)):=by
 refine Bq 25 [] Tryz.func85 rfl fun Q D e=>w_q rfl rfl fun u l=>Av (pV r) (Arv (Fj (Adx Hm) Bzo ⟨rfl,trivial⟩ fun F H J h=>?_))
 obtain⟨a,c,j⟩:=h
 replace a:=a.symm;replace c:=c.symm;subst a c j
 refine Ds l fun x y m p=>Av (iV n) (l_v (Fk) (l_k p (Cg rfl (Jw (by omega)) (Al (kk m ?_)))))
 refine Ai fun B q=>Oj ((r,oC #[pV r,nS] 83)::[]) [0,1,2,3,4,5,6,7,8,9,10,11,12] (by kernel_rfl) rfl rfl (Df 0 Aoe rfl ⟨Cal,sB⟩ rfl (Yld.o (Ah rfl)) (Df 1 (zT 2 11) rfl ⟨Cal,sB⟩ rfl (Yld.o (Ck rfl)) (Df 2 (zT 3 10) rfl ⟨Cal,sB⟩ rfl (Yld.o (Je Bxt rfl (Ab Bxu))) (Df 3 (zT 4 9) rfl ⟨Cal,sB⟩ rfl (Hv (v:=nS) ⟨_,Bxe,rfl⟩ rfl mC rfl) (Df 4 (zT 5 8) rfl ⟨Cal,sB⟩ rfl (Yld.o (Blw (el:=5) Bxe rfl)) (Df 5 (zT 6 7) rfl ⟨Cal,sB⟩ rfl (Yld.o (Ah rfl)) (Df 6 (zT 7 6) rfl ⟨Cal,sB⟩ rfl (Yld.o (Ck rfl)) (Df 7 (zT 8 5) rfl ⟨Cal,sB⟩ rfl (Yld.o (Je Bxt rfl (Ab Bxu))) (Df 8 (zT 9 4) rfl ⟨Cal,sB⟩ rfl (Hv (v:=nS) ⟨_,Bxe,rfl⟩ rfl mC rfl) (Df 9 (zT 10 3) rfl ⟨Cal,sB⟩ rfl (Yld.o (Bbf (el:=5) Bxe rfl)) (Df 10 (zT 11 2) rfl ⟨Cal,sB⟩ rfl (Yld.o (Ou rfl rfl (z:=0-0) wrE)) (Fc 11 (zT 12 1) rfl ⟨Cal,sB⟩ rfl (Yld.o (Ah rfl)) ⟨Cal,sB⟩ (Fc 12 Aoj rfl ⟨Cal,sB⟩ rfl (Yld.o (Fk)) ⟨Cal,sB⟩ (Te rfl (kk q ?_)))))))))))))))
 refine Bu (t:=decide ((0-0)<(n:Int))) rfl (fun g=>?_) (fun g=>?_)
 ·refine Bf (Av _ (Av _ (Arv (Fj (vs:=[pV r,iV n]) (Bmx (r:=r) (n:=n) (by omega)) Tryz.func115 ⟨rfl,rfl,trivial⟩ fun G I K i=>?_))))
  obtain⟨b,k,E,C,f,d⟩:=i
  replace b:=b.symm;replace d:=d.symm;subst b d k
  apply Ac
  refine e ⟨rfl,rfl,_,_,f,rfl⟩
 refine Al (e ⟨rfl,rfl,_,_,Hm,rfl⟩)
theorem Bhc{ws vw}(rw_:Val ρ vw ws)(hb:(Ho (wl ws)).length≤1000000)(hne:ws.length≠0):CallsH (CX mn X) 32 #[vw,.string (bs ([32]:List UInt8))] ρ σ (rP ρ σ (.string (bs (Ho (wl ws))))):=by
 have hjn:=Avx (ws:=wl ws) (by intro h;apply hne;rw[←Rt,h];rfl)
 rw[Rt]at hjn
 have hq:=Nat.div_le_self 9223372036854775807 (ws.length-1)
 have ct:2≤ws.length→2≤9223372036854775807/(ws.length-1):=fun h=>Bos (by omega) (by omega)
 refine Bq 75 [4] Tryz.func32 rfl fun Q a4 cs=>w_q rfl rfl fun K1 k1=>Au (.string (ByteArray.mk #[])) (Ds k1 fun K2 K3 k2 k3=>Av vw ?_)
 have g4:=Can rw_
 refine l_v (Ci (el:=9) Bwy rfl rw_) (l_k k3 (Ao (Cr fun K5 k5=>l_v (Hs) (Au (.bool ((ws.length:Int)==0)) (l_k k5 (Cg rfl (by simpa using hne) (Cr fun K6 k6=>l_v (Hs) (Au (.bool ((ws.length:Int)==1)) (l_k k6 (Bu (t:=(ws.length:Int)==1) rfl (fun u=>?_) (fun u=>?_)))))))))))
 ·have q7:=Jr u
  refine Cr fun K8 k8=>Av vw ?_
  obtain⟨f,C⟩:=Ed (xs:=ws) (i:=0) (by first|omega|(simp only[lZ5]at *;omega))
  have cu:=Afx (Pw C);have cw:=Abj (ws:=wl ws) (i:=0+1)
  refine Arw (Em 0 Bwy ty9 rw_ (q:=0) C) fun v9 r9=>?_
  have cf:f.data.toList.length<2^60:=At.slen r9
  refine l_v (Pk ty9 rfl r9) (Au (.string f) (l_k k8 (Aq (a4 (rT (.string f) ?_)))))
  exact(congrArg Value.string (Aho _).symm).trans (by rw[Bis (by omega) C])
 have q7:=Jq u
 refine Al (kk k2 ?_)
 refine Cr fun bm aq=>Au (iV 0) (Ds aq fun bn bo ar au=>Av (.string (bs ([32]:List UInt8))) (l_v (Ga Bwz (p:=([32]:List UInt8)) rfl) (l_v (Gl rfl rfl) (l_k au (Co rfl rfl (Gw fun bp bq av aw=>Av (.string (bs ([32]:List UInt8))) (l_v (Ga Bwz (p:=([32]:List UInt8)) rfl) (Av vw ?_))))))))
 have cg:=Can rw_
 refine l_v (Ci (el:=9) Bwy rfl rw_) (l_v (Ou rfl rfl (z:=(((ws.length-1):Nat):Int)) (Bo (by omega) (by omega) (by omega))) (l_v (Aor (p:=9223372036854775807) (q:=(((ws.length-1):Nat):Int)) rfl rfl (by omega) (z:=(((9223372036854775807/(ws.length-1)):Nat):Int)) wrR) (l_v (Uy (p:=1) (q:=(((9223372036854775807/(ws.length-1)):Nat):Int)) rfl rfl) (l_k aw (Cg rfl (Jw (by omega)) (Al (kk av ?_)))))))
 refine Bf (Av (iV 0) (Av (.string (bs ([32]:List UInt8))) (l_v (Ga Bwz (p:=([32]:List UInt8)) rfl) (Av vw ?_))))
 have ch:=Can rw_
 refine l_v (Ci (el:=9) Bwy rfl rw_) (l_v (Ou rfl rfl (z:=(((ws.length-1):Nat):Int)) (Bo (by omega) (by omega) (by omega))) (l_v (Wq rfl rfl (z:=(((1*(ws.length-1)):Nat):Int)) wrE) (l_v (Dm (((0+(1*(ws.length-1))):Nat):Int)) (Au (iV (((0+(1*(ws.length-1))):Nat):Int)) (Ds ar fun br bt ax ay=>Av vw ?_)))))
 have ci:=Can rw_
 refine l_v (Ci (el:=9) Bwy rfl rw_) (Av (iV 0) (l_k ay (Ao (Cc (fun mm ee dd ρ' σ'=>∃(i:Nat) (n:Nat),(ws.length-i)=mm∧[]=dd∧ρ=ρ'∧σ=σ'∧ee 0=vw∧ee 1=(.string (bs ([32]:List UInt8)))∧ee 39=vw∧ee 40=(iV (ws.length:Int))∧ee 5=iV n∧ee 41=iV i∧(i≤ws.length)∧(n=(ws.length-1)+((wl ws).take i).flatten.length)∧True) (m:=_) ⟨0,0+(1*(ws.length-1)),rfl,rfl,rfl,rfl,rfl,rfl,rfl,rfl,rfl,rfl,Hz _,(by rw[Azy];show _=_+0;omega),trivial⟩ ?_))))
 rintro cz cd _ _ _ ⟨i,n,rfl,rfl,rfl,rfl,w,U,V,W,y,x,d1,d2,_⟩
 have cp:=Abj (ws:=wl ws) (i:=i)
 refine Cr fun bu az=>l_v (Da x W) (Asa az fun bv b0=>Bu (t:=decide ((i:Int)<(ws.length:Int))) rfl (fun k=>?_) (fun k=>?_))
 ·have bh:=lZ2 k
  refine Al (kk b0 ?_)
  refine Ai fun bx b1=>Ao (Cr fun bz b2=>?_)
  obtain⟨b,a1⟩:=Ed (xs:=ws) (i:=i) (by first|omega|(simp only[lZ5]at *;omega))
  have ak:=Afx (Pw a1);have cx:=Abj (ws:=wl ws) (i:=i+1)
  refine Arw (Ch i Bwy ty9 V rw_ (q:=(i:Int)) x rfl a1) fun d4 a5=>?_
  have cj:b.data.toList.length<2^60:=At.slen a5
  refine l_v (Pk ty9 rfl a5) (Au (.string b) (Ds b2 fun c0 c1 b3 b4=>Av (.string b) (l_v (Ga Bwz (p:=b.data.toList) rfl) (l_v (Ah (v:=iV n) y) (l_v (Ou rfl rfl (z:=(((9223372036854775807-n):Nat):Int)) (Bo (by omega) (by omega) (by omega))) (l_v (Gl rfl rfl) (l_k b4 (Cg rfl (Jw (by omega)) (Al (kk b3 ?_))))))))))
  refine Bf (l_v (Ah (v:=iV n) y) (Av (.string b) (l_v (Ga Bwz (p:=b.data.toList) rfl) (l_v (Dm (((n+b.data.toList.length):Nat):Int)) (Au (iV ((n+b.data.toList.length):Nat)) (l_k b1 (Bf (l_v (Br x rfl (z:=(((i+1):Nat):Int)) wrE) (Av (iV ((i+1):Nat)) (Ac ?_))))))))))
  refine⟨_,?_,(i+1),(n+b.data.toList.length),rfl,rfl,rfl,rfl,w,U,V,W,rfl,rfl,(by omega),(by have:=ak;omega),trivial⟩
  omega
 have bh:=lZ1 k
 refine Bx (kk ax ?_)
 refine Cr fun c2 b5=>Arv (Ct Blz fun a=>?_)
 refine Dr b5 fun c3 b6=>l_v (Ah (v:=iV n) y) (Arv (Fj (vs:=[pV a,iV n]) (Bmo (r:=a) (n:=n) (by omega)) Tryz.func85 ⟨rfl,rfl,trivial⟩ fun d9 df dm ae=>?_))
 obtain⟨E,al,d5,ck,a8,J⟩:=ae
 replace E:=E.symm;replace J:=J.symm;subst E J al
 refine Dr b6 fun c4 b8=>l_v (Ah (v:=vw) w) ?_
 obtain⟨g,D⟩:=Ed (xs:=ws) (i:=0) (by first|omega|(simp only[lZ5]at *;omega))
 have cv:=Afx (Pw D);have cy:=Abj (ws:=wl ws) (i:=0+1)
 refine Arw (Em 0 Bwy ty9 rw_ (q:=0) D) fun d6 a6=>?_
 have cl:g.data.toList.length<2^60:=At.slen a6
 refine l_v (Pk ty9 rfl a6) (Bj (Cai Asc) (Bj (Cai Asd) (Arv (Fj (vs:=[pV a,.string g]) (Sf (r:=a) (s:=g.data.toList) a8 (by simp only[lZ0,lZ3,lZ4];omega)) Byq ⟨rfl,rfl,trivial⟩ fun da dh dn af=>?_))))
 obtain⟨F,bj,ac,am,a9,K⟩:=af
 replace F:=F.symm;replace K:=K.symm;subst F K am
 refine Ds b8 fun c5 c6 b9 ba=>l_v (Ah (v:=vw) w) (Arw (Ack 1 Bwy ty9 rfl rw_ (q:=1) rfl rfl (by first|omega|(simp only[lZ5]at *;omega))) fun bk d=>?_)
 have cm:=Can d
 refine l_v (Ci (el:=9) Bwy rfl d) (Av (iV 0) (l_k ba (Ao (Aj (Cai Asc) (Cc (fun mm ee dd ρ' σ'=>∃(j:Nat) (R:Value) (P:Own),((ws.drop 1).length-j)=mm∧[]=dd∧Ro.le ρ ρ'∧(P++((a,oC #[pV a,R] 83)::σ))=σ'∧ee 1=(.string (bs ([32]:List UInt8)))∧ee 8=pV a∧ee 63=bk∧ee 64=(iV ((((ws.drop 1)).length:Nat):Int))∧ee 65=iV j∧(j≤(ws.drop 1).length)∧Grow ρ' 5 R (Ho (wl (ws.take (j+1)))) P∧True) (m:=_) ⟨0,bj,ac,rfl,rfl,Cal,rfl,U,rfl,rfl,rfl,rfl,Hz _,Fy (by rw[Azr D];rfl) a9,trivial⟩ ?_)))))
 rintro d0 ce _ di _ ⟨j,R,P,rfl,rfl,O,rfl,Y,e,Z,a0,B,d3,T,_⟩
 replace d:=Val.mono O d
 have cq:=Bbt (ws:=ws) (j:=j+1)
 refine Cr fun c7 bb=>l_v (Da B a0) (Asa bb fun c8 bc=>Bu (t:=decide ((j:Int)<((((ws.drop 1)).length:Nat):Int))) rfl (fun l=>?_) (fun l=>?_))
 ·have bi:=lZ2 l
  refine Al (kk bc ?_)
  refine Ai fun c9 bd=>Ao (Cr fun ca be=>?_)
  obtain⟨c,a2⟩:=Ed (xs:=ws.drop 1) (i:=j) (by first|omega|(simp only[lZ5]at *;omega))
  have a3:=Bev a2;have cr:=Bbt (ws:=ws) (j:=j+1+1);have aj:=congrArg List.length a3;simp only[lZ0,lZ3,lZ4]at aj
  refine Arw (Ch j Bwy ty9 Z d (q:=(j:Int)) B rfl a2) fun d7 a7=>?_
  have cn:c.data.toList.length<2^60:=At.slen a7
  refine l_v (Pk ty9 rfl a7) (Au (.string c) (Dr be fun cb bf=>l_v (Ah (v:=.string (bs ([32]:List UInt8))) Y) (Bj (Cai Asd) (Arv (Fj (vs:=[pV a,.string (bs ([32]:List UInt8))]) (Sf (r:=a) (s:=([32]:List UInt8)) T (by simp only[lZ0,lZ3,lZ4];omega)) Byq ⟨e,rfl,trivial⟩ fun db dj dp ag=>?_)))))
  obtain⟨G,d8,co,an,aa,L⟩:=ag
  replace G:=G.symm;replace L:=L.symm;subst G L an
  refine l_k bf (Bf (Av (.string c) (Bj (Cai Asc) (Bj (Cai Asd) (Arv (Fj (vs:=[pV a,.string c]) (Sf (r:=a) (s:=c.data.toList) aa (by simp only[lZ0,lZ3,lZ4];omega)) Byq ⟨e,rfl,trivial⟩ fun dc dk dq ah=>?_))))))
  obtain⟨H,bl,ad,ao,ab,M⟩:=ah
  replace H:=H.symm;replace M:=M.symm;subst H M ao
  refine l_k bd (Bf (l_v (Br B rfl (z:=(((j+1):Nat):Int)) wrE) (Av (iV ((j+1):Nat)) (Bj (Cai Asc) (Ac ?_)))))
  refine⟨_,?_,(j+1),bl,ad,rfl,rfl,O,rfl,Y,e,Z,a0,rfl,(by omega),(Fy a3 ab),trivial⟩
  omega
 have bi:=lZ1 l
 refine Bx (kk b9 ?_)
 refine Cr fun cc bg=>Bj (Cai Asd) (Arv (Fj (vs:=[pV a]) (Aqa (r:=a) T (by have:=congrArg List.length (show Ho (wl (ws.take (j+1)))=Ho (wl ws) by rw[show j+1=ws.length by rw[lZ5]at *;omega,Qa]);intro h;rw[h]at this;simp only[lZ4]at this;omega)) Tryz.func36 ⟨e,trivial⟩ fun de dl dr ai=>?_))
 obtain⟨I,N,ap⟩:=ai
 replace I:=I.symm;replace N:=N.symm;subst I N ap
 refine Au (.string (bs (Ho (wl (ws.take (j+1)))))) (l_k bg (Aj (Cah O) (Aq (a4 ⟨rfl,rfl,eT (.string (bs (Ho (wl (ws.take (j+1)))))) ?_⟩))))
 rw[show j+1=ws.length by rw[lZ5]at *;omega,Qa]
end
section
open Go
theorem Lu{p}(h0:0≤p)(h1:p<4294967296):IntKind.u32.wrap p=p:=by
 show p%_=_
 simp only[IntKind.bits]
 omega
def smL:List UInt8:=(List.append (List.append [48,48,48,49,48,50,48,51,48,52,48,53,48,54,48,55,48,56,48,57,49,48,49,49,49,50,49,51,49,52,49,53,49,54,49,55,49,56,49,57,50,48,50,49,50,50,50,51,50,52] [50,53,50,54,50,55,50,56,50,57,51,48,51,49,51,50,51,51,51,52,51,53,51,54,51,55,51,56,51,57,52,48,52,49,52,50,52,51,52,52,52,53,52,54,52,55,52,56,52,57]) (List.append [53,48,53,49,53,50,53,51,53,52,53,53,53,54,53,55,53,56,53,57,54,48,54,49,54,50,54,51,54,52,54,53,54,54,54,55,54,56,54,57,55,48,55,49,55,50,55,51,55,52] [55,53,55,54,55,55,55,56,55,57,56,48,56,49,56,50,56,51,56,52,56,53,56,54,56,55,56,56,56,57,57,48,57,49,57,50,57,51,57,52,57,53,57,54,57,55,57,56,57,57]))
def smB:ByteArray:=⟨smL.toArray⟩
theorem Box{d}(h:d<100):smB[d*2]?=some (UInt8.ofNat (48+d/10)):=by
 have key:(List.range 100).all (fun d=>smB[d*2]?==some (UInt8.ofNat (48+d/10)))=true:=by decide +kernel
 simpa using Tk.1 key d (Apo.2 h)
theorem Boy{d}(h:d<100):smB[d*2+1]?=some (UInt8.ofNat (48+d%10)):=by
 have key:(List.range 100).all (fun d=>smB[d*2+1]?==some (UInt8.ofNat (48+d%10)))=true:=by decide +kernel
 simpa using Tk.1 key d (Apo.2 h)
theorem Bpa{n}(h0:10≤n)(h:n<100):(smL.take (n*2+2)).drop (n*2)=Pa n:=by
 have key:(List.range 100).all (fun n=>decide (n<10)||((smL.take (n*2+2)).drop (n*2)==Pa n))=true:=by decide +kernel
 have:=Tk.1 key n (Apo.2 h)
 rw[Jw (by omega),Bool.false_or]at this
 exact eq_of_beq this
theorem Boz{n}(h:n<10):((([48,49,50,51,52,53,54,55,56,57,97,98,99,100,101,102,103,104,105,106,107,108,109,110,111,112,113,114,115,116,117,118,119,120,121,122]:List UInt8).take (n+1)).drop n)=Pa n:=by
 have key:(List.range 10).all (fun n=>((([48,49,50,51,52,53,54,55,56,57,97,98,99,100,101,102,103,104,105,106,107,108,109,110,111,112,113,114,115,116,117,118,119,120,121,122]:List UInt8).take (n+1)).drop n)==Pa n)=true:=by decide +kernel
 exact eq_of_beq (Tk.1 key n (Apo.2 h))
def Awl(n:Nat):Nat:=if n<256 then Ie n else if n<65536 then 8+Ie (n>>>8) else 16+Ie (n>>>16)
theorem Aly{x}(h0:1≤x)(h:x<256):∃k,k<8∧Ie x=k+1∧2^k≤x∧x<2^(k+1):=by
 have key:(List.range 256).all (fun x=>decide (x=0)||(List.range 8).any fun k=>decide (Ie x=k+1)&&decide (2^k≤x)&&decide (x<2^(k+1)))=true:=by decide +kernel
 have:=Tk.1 key x (Apo.2 h)
 rw[Jw (by omega),Bool.false_or,Bfb]at this
 obtain⟨k,hk,a⟩:=this
 simp only[Tj,decide_eq_true_eq]at a
 exact⟨k,Apo.1 hk,a.1.1,a.1.2,a.2⟩
theorem Awm{n}(h0:1≤n)(h:n<16777216):∃k,k<24∧Awl n=k+1∧2^k≤n∧n<2^(k+1):=by
 unfold Awl
 split
 ·obtain⟨k,d,a,b,c⟩:=Aly h0 (by omega)
  exact⟨k,by omega,a,b,c⟩
 ·split
  ·rw[Bit]
   obtain⟨k,d,a,b,c⟩:=Aly (x:=n/2^8) (by omega) (by omega)
   refine⟨8+k,by omega,by omega,?_,?_⟩
   ·rw[Nat.pow_add];omega
   ·rw[show 8+k+1=8+(k+1) by omega,Nat.pow_add];omega
  ·rw[Bit]
   obtain⟨k,d,a,b,c⟩:=Aly (x:=n/2^16) (by omega) (by omega)
   refine⟨16+k,by omega,by omega,?_,?_⟩
   ·rw[Nat.pow_add];omega
   ·rw[show 16+k+1=16+(k+1) by omega,Nat.pow_add];omega
def tD(n:Nat):Nat:=(Awl n*78913)>>>18
def Sn(n:Nat):Nat:=if n<1000 then 3 else if n<10000 then 4 else if n<100000 then 5 else if n<1000000 then 6 else 7
def Bgx(b:Bool):Nat:=if b then 1 else 0
theorem Bmh{b}:Bgx b≤1:=by cases b<;>decide
theorem Bjx{n}(h0:100≤n)(h:n≤1000000):tD n≤6∧tD n+Bgx (decide ((n:Int)≥((10^tD n:Nat):Int)))=Sn n:=by
 obtain⟨k,c,b,e,f⟩:=Awm (n:=n) (by omega) (by omega)
 have fin:∀t,tD n=t→t≤6→(n<10^t→t=Sn n)→(10^t≤n→t+1=Sn n)→tD n≤6∧tD n+Bgx (decide ((n:Int)≥((10^tD n:Nat):Int)))=Sn n:=fun t ht a ha hb=>by
  rw[ht]
  refine⟨a,?_⟩
  by_cases hc:10^t≤n
  ·rw[Oe (by omega),←hb hc];rfl
  ·rw[Jw (by omega),←ha (by omega)];rfl
 have ht:tD n=((k+1)*78913)>>>18:=by unfold tD;rw[b]
 have a:6≤k:=by
  rcases Tc k 6 with hk|hk
  ·have:2^(k+1)≤2^6:=Bby (by omega) (by omega)
   omega
  ·exact hk
 have d:k<20:=by
  rcases Tc k 20 with hk|hk
  ·exact hk
  ·have:2^20≤2^k:=Bby (by omega) (by omega)
   omega
 rcases (show k=6∨k=7∨k=8∨k=9∨k=10∨k=11∨k=12∨k=13∨k=14∨k=15∨k=16∨k=17∨k=18∨k=19 from by omega) with rfl|rfl|rfl|rfl|rfl|rfl|rfl|rfl|rfl|rfl|rfl|rfl|rfl|rfl
 ·exact fin 2 ht (by omega) (fun h=>by omega) (fun h=>by unfold Sn;rw[if_pos (by omega)])
 ·exact fin 2 ht (by omega) (fun h=>by omega) (fun h=>by unfold Sn;rw[if_pos (by omega)])
 ·exact fin 2 ht (by omega) (fun h=>by omega) (fun h=>by unfold Sn;rw[if_pos (by omega)])
 ·exact fin 3 ht (by omega) (fun h=>by unfold Sn;rw[if_pos (by omega)]) (fun h=>by unfold Sn;rw[if_neg (by omega),if_pos (by omega)])
 ·exact fin 3 ht (by omega) (fun h=>by omega) (fun h=>by unfold Sn;rw[if_neg (by omega),if_pos (by omega)])
 ·exact fin 3 ht (by omega) (fun h=>by omega) (fun h=>by unfold Sn;rw[if_neg (by omega),if_pos (by omega)])
 ·exact fin 3 ht (by omega) (fun h=>by omega) (fun h=>by unfold Sn;rw[if_neg (by omega),if_pos (by omega)])
 ·exact fin 4 ht (by omega) (fun h=>by unfold Sn;rw[if_neg (by omega),if_pos (by omega)]) (fun h=>by unfold Sn;rw[if_neg (by omega),if_neg (by omega),if_pos (by omega)])
 ·exact fin 4 ht (by omega) (fun h=>by omega) (fun h=>by unfold Sn;rw[if_neg (by omega),if_neg (by omega),if_pos (by omega)])
 ·exact fin 4 ht (by omega) (fun h=>by omega) (fun h=>by unfold Sn;rw[if_neg (by omega),if_neg (by omega),if_pos (by omega)])
 ·exact fin 5 ht (by omega) (fun h=>by unfold Sn;rw[if_neg (by omega),if_neg (by omega),if_pos (by omega)]) (fun h=>by unfold Sn;rw[if_neg (by omega),if_neg (by omega),if_neg (by omega),if_pos (by omega)])
 ·exact fin 5 ht (by omega) (fun h=>by omega) (fun h=>by unfold Sn;rw[if_neg (by omega),if_neg (by omega),if_neg (by omega),if_pos (by omega)])
 ·exact fin 5 ht (by omega) (fun h=>by omega) (fun h=>by unfold Sn;rw[if_neg (by omega),if_neg (by omega),if_neg (by omega),if_pos (by omega)])
 ·exact fin 6 ht (by omega) (fun h=>by unfold Sn;rw[if_neg (by omega),if_neg (by omega),if_neg (by omega),if_pos (by omega)]) (fun h=>by unfold Sn;rw[if_neg (by omega),if_neg (by omega),if_neg (by omega),if_neg (by omega)])
def dg(d:Nat):UInt8:=UInt8.ofNat (48+d)
theorem Brv{d}(h:d<10):(dg d).toNat=48+d:=by
 unfold dg;rw[UInt8.toNat_ofNat'];omega
theorem Brx{n}(h0:10≤n)(h:n<100):Pa n=[dg (n/10),dg (n%10)]:=by
 rw[Yv h0 (by omega),Ayw (by omega)];rfl
theorem Ayx{n}(h0:100≤n)(h:n<1000):Pa n=[dg (n/100),dg (n/10%10),dg (n%10)]:=by
 rw[Yv (by omega) (by omega),Brx (by omega) (by omega),Adc];rfl
theorem Ayy{n}(h0:1000≤n)(h:n<10000):Pa n=[dg (n/1000),dg (n/100%10),dg (n/10%10),dg (n%10)]:=by
 rw[Yv (by omega) (by omega),Ayx (by omega) (by omega),Adc,Adc];rfl
theorem Ayz{n}(h0:10000≤n)(h:n<100000):Pa n=[dg (n/10000),dg (n/1000%10),dg (n/100%10),dg (n/10%10),dg (n%10)]:=by
 rw[Yv (by omega) (by omega),Ayy (by omega) (by omega),Adc,Adc,Adc];rfl
theorem Aza{n}(h0:100000≤n)(h:n<1000000):Pa n=[dg (n/100000),dg (n/10000%10),dg (n/1000%10),dg (n/100%10),dg (n/10%10),dg (n%10)]:=by
 rw[Yv (by omega) (by omega),Ayz (by omega) (by omega),Adc,Adc,Adc,Adc];rfl
theorem Bho{n}(h0:1000000≤n)(h:n<10000000):Pa n=[dg (n/1000000),dg (n/100000%10),dg (n/10000%10),dg (n/1000%10),dg (n/100%10),dg (n/10%10),dg (n%10)]:=by
 rw[Yv (by omega) (by omega),Aza (by omega) (by omega),Adc,Adc,Adc,Adc,Adc];rfl
end
section
open Go
section
variable{P:Program}{ρ ρ₀:Ro}{e:Env}{ty t t':TypeId}{x y:Operand}{v:Value}
theorem Adp{r n l h:Nat}{el lo hi}(hT:P.underlying t=some (.array n el))(hE:∃i,P.info? el=some i∧i.size=1)(hx:Af e x = .pointer (some ⟨r,0,none⟩))(hl:(lo=none∧l=0)∨∃o,lo=some o∧Af e o = .int .i64 (l:Int))(hh:(hi=none∧h=n)∨∃o,hi=some o∧Af e o = .int .i64 (h:Int))(h1:l≤h)(h2:h≤n)(h3:l<n):
  Yld P ρ e (.slice t x lo hi none) ty (.slice (some ⟨r,l,none⟩) (h-l) (n-l)) :=
 Mt (s:=Instr.sliceAt t (Af e x) (lo.map (Af e)) (hi.map (Af e)) none) (fun _ _ _ _=>rfl) fun ρ' σ _=>by
  rw[hx]
  show wpS P ρ' ((underlying t).bind _) σ _
  rw[Ad]
  refine Az hT ?_
  simp only[]
  show wpS P ρ' ((Instr.sliceBounds false n n (lo.map (Af e)) (hi.map (Af e)) none).bind _) σ _
  rw[sliceB (l:=l) (h:=h) (by
   rcases hl with⟨rfl,b⟩|⟨o,rfl,ho⟩
   ·exact .inl ⟨rfl,b⟩
   ·exact .inr (by rw[Awh,ho])) (by
   rcases hh with⟨rfl,b⟩|⟨o,rfl,ho⟩
   ·exact .inl ⟨rfl,b⟩
   ·exact .inr (by rw[Awh,ho])) h1 h2]
  show wpS P ρ' ((sizeOf el).bind _) σ _
  rw[Ad]
  refine Dx hE ⟨?_,rfl⟩
  refine congrArg (fun z=>Value.slice (some z) (h-l) (n-l)) ?_
  show (if n=l then (⟨r,0,none⟩:Addr) else (⟨r,0,none⟩:Addr).add (l*1))=_
  rw[if_neg (show ¬n=l by omega),Ld]
  simp
/-- The string of a part of bytes that are owned. -/
theorem Bpv{A r off cap l}{c:List Value}{fz el tt}(hT:P.underlying t=some (.slice el))(hT':P.underlying t'=some .string)(hE:P.underlying el=some (.int .u8))(hx:Af e x = .slice (some ⟨r,off,none⟩) l.length cap)(hm:(r,Res.obj (.cells c.toArray tt fz))∈A)(hc:(c.drop off).take l.length=l.map fun b:UInt8=>Value.int .u8 (b.toNat:Int)):Abx P ρ₀ A e (.convert t t' x) ty (.string (bs l)):=fun ρ' σ d pos af g hS=>by
 show wpS P ρ' ((convert t t' (Af e x)).bind _) σ _
 rw[Ad,hx]
 show wpS P ρ' ((underlying t).bind _) σ _
 rw[Ad]
 refine Az hT ?_
 show wpS P ρ' ((underlying t').bind _) σ _
 rw[Ad]
 refine Az hT' ?_
 show wpS P ρ' ((underlying el).bind _) σ _
 rw[Ad]
 refine Az hE ?_
 show wpS P ρ' (Conv.bytesToString (.slice (some ⟨r,off,none⟩) l.length cap)) σ _
 unfold Conv.bytesToString
 simp only
 show wpS P ρ' ((loadCells ⟨r,off,none⟩ l.length).bind _) σ _
 rw[Ad]
 have hl:l.length=(l.map fun b:UInt8=>Value.int .u8 (b.toNat:Int)).length:=by simp
 rw[hl]
 refine Ff rfl (.inr (hS.2 _ hm)) _ 0 #[] (fun j w hj=>?_) ?_
 ·have hj':=hj
  rw[←hc,Agn]at hj'
  split at hj'
  ·rw[Yz]at hj'
   simpa[Gy]using hj'
  ·cases hj'
 ·have a:(#[]:Array Value)++(l.map fun b:UInt8=>Value.int .u8 (b.toNat:Int)).toArray=(l.map fun b:UInt8=>Value.int .u8 (b.toNat:Int)).toArray:=by simp
  rw[a,Bca]
  show wpS P ρ' (Sem.bind _ _) _ _
  rw[Ad]
  refine bytesTo l ByteArray.empty ?_
  have e:ByteArray.empty++bs l=bs l:=by apply ByteArray.ext;rw[ByteArray.data_append];show #[]++_=_;simp
  exact⟨by rw[e],rfl⟩
end
theorem Bup:Fw Tryz.prog 247 (.agg #[.int .u8 0,.int .u8 0,.int .u8 0,.int .u8 0,.int .u8 0,.int .u8 0,.int .u8 0,.int .u8 0,.int .u8 0,.int .u8 0,.int .u8 0,.int .u8 0,.int .u8 0,.int .u8 0,.int .u8 0,.int .u8 0,.int .u8 0,.int .u8 0,.int .u8 0,.int .u8 0,.int .u8 0,.int .u8 0,.int .u8 0,.int .u8 0]):=⟨_,Ab Tryz.typeInfo247,rfl⟩
end
section
open Go
def powC:List Value:=(List.range 20).map fun n:Nat=>Value.int .u64 ((10^n:Nat):Int)
theorem Boq{t}(h:t<20):powC.toArray[t]?=some (.int .u64 ((10^t:Nat):Int)):=by
 unfold powC;simp[h]
structure GlobE(ρ:Ro):Prop where
 g:Glob ρ
 views:∃t fz,ρ 0=some (.cells #[.string (bs Rb),.string (bs Nj),.string (bs wNo)] t fz)
 pow:∃t fz,ρ 5=some (.cells powC.toArray t fz)
 mlen:∃(z:Int) (t:TypeId) (fz:Nat×Nat),ρ 4=some (.cells #[.int .i64 z] t fz)∧I64 z
 etype:∃t fz,ρ 1=some (.cells #[.iface 218 (.agg #[typeHandle Tryz.prog 85])] t fz)
theorem GlobE.mono{ρ ρ'}(h:Ro.le ρ ρ')(hg:GlobE ρ):GlobE ρ' :=
 ⟨hg.g.mono h,let ⟨t,fz,h1⟩:=hg.views;⟨t,fz,h _ _ h1⟩,let ⟨t,fz,h1⟩:=hg.pow;⟨t,fz,h _ _ h1⟩,let ⟨z,t,fz,h1,h2⟩:=hg.mlen;⟨z,t,fz,h _ _ h1,h2⟩,let ⟨t,fz,h1⟩:=hg.etype;⟨t,fz,h _ _ h1⟩⟩
theorem Qu{d d'}(h:d=d'):Value.int .u8 ((UInt8.ofNat (48+d)).toNat:Int) = .int .u8 ((dg d').toNat:Int):=by rw[h];rfl
theorem Bhk{d d'}(h:d=d')(hd:d<10):Value.int .u8 ((48+d:Nat):Int) = .int .u8 ((dg d').toNat:Int):=by rw[←h,Brv hd]
end
section
open Go
def bw(ws:List (List UInt8)):List ByteArray:=ws.map bs
theorem Ank(ws:List (List UInt8)):wl (bw ws)=ws:=by
 unfold wl bw
 rw[Bcl]
 exact List.map_id'' (fun _=>rfl) ws
theorem Asp{ws w}:bw ws++[bs w]=bw (ws++[w]):=by simp[bw]
theorem Aeq{α β:Type}{f:α→β}{l:List α}{j x}(h:l[j]?=some x):(l.take j).map f++[f x]=(l.take (j+1)).map f:=by rw[Mv h];simp
def Axm(t:FTest)(j:Nat):List (List UInt8):=(if t.errs then Ot else Pt)::t.name.data.toList::(t.sees.take j).map Sa
def Xl(t:FTest)(j:Nat):List ByteArray:=bw (Axm t j)
theorem Bgf{t j}(h:j≤t.sees.length):(Xl t j).length=2+j:=by
 simp only[Xl,bw,Axm,Xp,lZ3,lZ6];omega
theorem Bas{t j b a}(hb:t.sees[j]?=some b)(h:0≤b∧b≤2)(ha:([bs Rb,bs Nj,bs wNo]:List ByteArray)[b.toNat]?=some a):Xl t j++[a]=Xl t (j+1):=by
 have e:a=bs (Sa b):=by
  have:b=0∨b=1∨b=2:=by omega
  rcases this with rfl|rfl|rfl<;>exact(Option.some.inj ha).symm
 rw[e]
 unfold Xl
 rw[Asp]
 congr 1
 show _::_::((t.sees.take j).map Sa++[Sa b])=_::_::_
 rw[Aeq hb]
theorem Ahg{t j}(h:j=t.sees.length):wl (Xl t j)=Oa t:=by
 unfold Xl
 rw[Ank,h]
 unfold Axm Oa
 rw[Qa]
def Bkt(m:Market)(s:Sale)(j:Nat):List (List UInt8):=Od::Nl s.grams::(s.sellers.take j).map (Tg m)
def Aav(m:Market)(s:Sale)(j:Nat):List ByteArray:=bw (Bkt m s j)
theorem Bfq{m s j}(h:j≤s.sellers.length):(Aav m s j).length=2+j:=by
 simp only[Aav,bw,Bkt,Xp,lZ3,lZ6];omega
theorem Aln{m h a}(ha:m.houses[h.toNat]?=some a):a=bs (Tg m h):=by
 unfold Tg;rw[ha];rfl
theorem Baj{m s j h a}(hb:s.sellers[j]?=some h)(ha:m.houses[h.toNat]?=some a):Aav m s j++[a]=Aav m s (j+1):=by
 rw[Aln ha]
 unfold Aav
 rw[Asp]
 congr 1
 show _::_::((s.sellers.take j).map (Tg m)++[Tg m h])=_::_::_
 rw[Aeq hb]
theorem Agz{m s j}(h:j=s.sellers.length):wl (Aav m s j)=Ny m s:=by
 unfold Aav
 rw[Ank,h]
 unfold Bkt Ny
 rw[Qa]
def Acz(a:ByteArray)(x:FField):List ByteArray:=[bs Im,bs x.name.data.toList,bs a.data.toList,bs (Ia x.grows)]++Mm x.marks
theorem Tf{m x a}(ha:m.houses[x.house.toNat]?=some a):wl (Acz a x)=Jt m x:=by
 have e:Acz a x=bw (Jt m x):=by
  unfold Acz Jt bw Mm
  have b:bs a.data.toList=bs (Tg m x.house):=Aln ha
  rw[b]
  simp
 rw[e,Ank]
def Axq(l:Lab):List UInt8:=Gm [wLab,Nl l.most]++Er (Ig Pj l.kinds)
def Zg(l:Lab)(i:Nat):List UInt8:=Axq l++Er ((l.tests.map Oa).take i)
def Apq(l:Lab)(m:Market):List UInt8:=(Zg l l.tests.length++Gm [Fv]++Er (Ig Md m.houses))++Er (Ig Ob m.marks)
def Aby(l:Lab)(m:Market)(i:Nat):List UInt8:=Apq l m++Er ((m.fields.map (Jt m)).take i)
def Afi(l:Lab)(m:Market)(i:Nat):List UInt8:=Aby l m m.fields.length++Er ((m.sales.map (Ny m)).take i)
theorem txt2_0{l}:Zg l 0=Axq l:=by unfold Zg;simp[Er]
theorem txt4_0{l m}:Aby l m 0=Apq l m:=by unfold Aby;simp[Er]
theorem txt5_0{l m}:Afi l m 0=Aby l m m.fields.length:=by unfold Afi;simp[Er]
theorem Aru{l i x}(h:l.tests[i]?=some x):Zg l i++Gm (Oa x)=Zg l (i+1):=by
 unfold Zg
 rw[Ts (x:=Oa x) (by rw[Vl,h];rfl),lZ9]
theorem Ahh{l m i x}(h:m.fields[i]?=some x):Aby l m i++Gm (Jt m x)=Aby l m (i+1):=by
 unfold Aby
 rw[Ts (x:=Jt m x) (by rw[Vl,h];rfl),lZ9]
theorem Asf{l m i x}(h:m.sales[i]?=some x):Afi l m i++Gm (Ny m x)=Afi l m (i+1):=by
 unfold Afi
 rw[Ts (x:=Ny m x) (by rw[Vl,h];rfl),lZ9]
theorem Anf{l m}:Afi l m m.sales.length=Adl l m:=by
 have a:(l.tests.map Oa).take l.tests.length=l.tests.map Oa:=Aad (by simp)
 have b:(m.fields.map (Jt m)).take m.fields.length=m.fields.map (Jt m):=Aad (by simp)
 have c:(m.sales.map (Ny m)).take m.sales.length=m.sales.map (Ny m):=Aad (by simp)
 unfold Afi Aby Apq Zg Axq Adl Ty
 rw[a,b,c,Xm,Tp,Tp,Xm,Tp,Tp,Tp]
 show _=Gm [wLab,Nl l.most]++(Er (Ig Pj l.kinds)++(Er (l.tests.map Oa)++(Gm [Fv]++(Er (Ig Md m.houses)++(Er (Ig Ob m.marks)++(Er (m.fields.map (Jt m))++Er (m.sales.map (Ny m))))))))
 simp only[lZ9]
section
variable{l:Lab}{m:Market}
theorem Aua(lok:LabOk l)(mok:MarketOk m){i}:(Afi l m i).length≤60000:=by
 refine Tl ?_ (Anc lok mok)
 rw[←Anf]
 unfold Afi
 rw[lZ0,lZ0,Aad (l:=m.sales.map (Ny m)) (i:=m.sales.length) (by simp)]
 have:=Tv (ls:=m.sales.map (Ny m)) (i:=i)
 omega
theorem Atz(lok:LabOk l)(mok:MarketOk m){i}:(Aby l m i).length≤60000:=by
 refine Tl ?_ (Aua lok mok (i:=0))
 rw[txt5_0]
 unfold Aby
 rw[lZ0,lZ0,Aad (l:=m.fields.map (Jt m)) (i:=m.fields.length) (by simp)]
 have:=Tv (ls:=m.fields.map (Jt m)) (i:=i)
 omega
theorem Aje(lok:LabOk l)(mok:MarketOk m):(Apq l m).length≤60000:=by
 have:=Atz lok mok (i:=0)
 rw[txt4_0]at this;exact this
theorem Ajd(lok:LabOk l)(mok:MarketOk m){i}:(Zg l i).length≤60000:=by
 have h:=Aje lok mok
 unfold Apq at h
 rw[lZ0,lZ0,lZ0]at h
 have a:(Zg l i).length≤(Zg l l.tests.length).length:=by
  unfold Zg
  rw[lZ0,lZ0,Aad (l:=l.tests.map Oa) (i:=l.tests.length) (by simp)]
  have:=Tv (ls:=l.tests.map Oa) (i:=i)
  omega
 omega
theorem Awv(lok:LabOk l)(mok:MarketOk m):(Er (Ig Pj l.kinds)).length≤60000∧(Er (Ig Md m.houses)).length≤60000∧(Er (Ig Ob m.marks)).length≤60000∧(Zg l l.tests.length).length≤60000:=by
 have h:=Aje lok mok
 have a:=Ajd lok mok (i:=0)
 rw[txt2_0]at a
 unfold Axq at a
 unfold Apq at h
 rw[lZ0,lZ0,lZ0]at h
 rw[lZ0]at a
 omega
theorem Atp{ws}(h:shL ws):(Ho ws).length≤372∧(Gm ws).length≤373:=by
 have a:=Age (k:=30) h.2
 have b:=h.1
 unfold Gm
 rw[lZ0]
 simp only[lZ3,lZ4]
 omega
theorem Bde(lok:LabOk l)(mok:MarketOk m){x}(hx:x∈l.tests):(Ho (Oa x)).length≤372∧(Gm (Oa x)).length≤373 :=
 Atp (Aep lok mok _ (by unfold Ty;simp;right;right;left;exact⟨x,hx,rfl⟩))
theorem Avo(lok:LabOk l)(mok:MarketOk m){x}(hx:x∈m.fields):(Ho (Jt m x)).length≤372∧(Gm (Jt m x)).length≤373 :=
 Atp (Aep lok mok _ (by unfold Ty;simp;right;right;right;right;right;right;left;exact⟨x,hx,rfl⟩))
theorem Bcz(lok:LabOk l)(mok:MarketOk m){x}(hx:x∈m.sales):(Ho (Ny m x)).length≤372∧(Gm (Ny m x)).length≤373 :=
 Atp (Aep lok mok _ (by unfold Ty;simp;right;right;right;right;right;right;right;exact⟨x,hx,rfl⟩))
theorem Awy(hf:Gh l=0)(hg:Cf m=0):Pb l m=bs (Adl l m):=by unfold Pb;rw[if_pos (Amo hf hg)]
theorem Afa(hf:Gh l≠0):Ow l m=Gh l∧Pb l m=bs []:=by
 have e:Ow l m=Gh l:=by unfold Ow;rw[Ry hf]
 exact⟨e,by unfold Pb;rw[e,if_neg hf]⟩
theorem Afb(hf:Gh l=0)(hg:Cf m≠0):Ow l m=Cf m∧Pb l m=bs []:=by
 have e:Ow l m=Cf m:=by unfold Ow;rw[Gr hf,Ry hg]
 exact⟨e,by unfold Pb;rw[e,if_neg hg]⟩
end
end
section
open Go
theorem Ub{c n:UInt8}(h:((c.toNat:Nat):Int)=((n.toNat:Nat):Int)):c=n:=UInt8.toNat_inj.1 (by omega)
theorem Zk{c n:UInt8}(h:¬((c.toNat:Nat):Int)=((n.toNat:Nat):Int)):c≠n:=fun e=>h (by rw[e])
theorem Vb{α:Type}{l:List α}{i x}(h:l[i]?=some x):l.drop i=x::l.drop (i+1):=by
 have hi:i<l.length:=(Mq.1 h).1
 rw[Bof hi]
 rw[Sr hi]at h
 rw[Option.some.inj h]
theorem Arc{t:List UInt8}{i fr c}(h:t[i]?=some c)(hf:fr≤i):(t.take i).drop fr++[c]=(t.take (i+1)).drop fr:=by
 have hi:i<t.length:=(Mq.1 h).1
 rw[Mv h,Bjj (by rw[lZ6];omega)]
theorem Agx{t:List UInt8}{i}:(t.take i).drop i=[]:=Azt (by rw[lZ6];omega)
theorem Wb{t:List UInt8}{i fr}(h:i≤t.length):((t.take i).drop fr).length=i-fr:=by rw[lZ5,lZ6];omega
theorem Bqe(ws:List ByteArray):bw (wl ws)=ws:=by
 unfold wl bw
 rw[Bcl]
 exact List.map_id'' (fun _=>rfl) ws
theorem Aub{a b}:wl (a++b)=wl a++wl b:=by simp[wl]
def Zi(t:List UInt8)(i fr:Nat)(ov:List ByteArray):Prop:=Ix t=wl ov++Sm ((t.take i).drop fr) (t.drop i)
theorem Bwm{t}:Zi t 0 0 []:=rfl
theorem Bso{t i fr ov c}(h:Zi t i fr ov)(hc:t[i]?=some c)(h10:c=10):Zi t (i+1) (i+1) (ov++[bs ((t.take i).drop fr)]):=by
 unfold Zi at *
 rw[h,Vb hc,Aub,Agx]
 show wl ov++(if c=10 then _ else _)=_
 rw[if_pos h10,lZ9];rfl
theorem Bvn{t i fr ov c}(h:Zi t i fr ov)(hc:t[i]?=some c)(hf:fr≤i)(h10:c≠10):Zi t (i+1) fr ov:=by
 unfold Zi at *
 rw[h,Vb hc,←Arc hc hf]
 show wl ov++(if c=10 then _ else _)=_
 rw[if_neg h10]
theorem Bsp{t i fr ov}(h:Zi t i fr ov)(hi:i=t.length)(hf:¬fr<t.length):ov=bw (Ix t):=by
 unfold Zi at h
 rw[h,hi,Bcd,Azt (by rw[lZ6];omega)]
 show ov=bw (wl ov++[])
 rw[Za,Bqe]
theorem Boh{t i fr ov}(h:Zi t i fr ov)(hi:i=t.length)(hf:fr<t.length):ov++[bs ((t.take t.length).drop fr)]=bw (Ix t):=by
 unfold Zi at h
 rw[h,hi,Bcd]
 show _=bw (wl ov++(if (t.take t.length).drop fr=[] then [] else [(t.take t.length).drop fr]))
 rw[if_neg (fun hc=>by have:=congrArg List.length hc;rw[Wb (Lb _)]at this;simp at this;omega)]
 unfold bw
 rw[Ql]
 have:=Bqe ov
 unfold bw at this
 rw[this];rfl
def Aca(t:List UInt8)(i fr:Nat)(ov:List ByteArray):Prop:=(∀w∈wl ov,w≠[])∧(i≤t.length→fr≤i∧Hn t=wl ov++Nz 32 ((t.take i).drop fr) (t.drop i))∧(t.length<i→Hn t=wl ov)
theorem Bwl{t}:Aca t 0 0 []:=⟨fun w h=>(by cases h),fun _=>⟨Lb _,rfl⟩,fun h=>absurd h (by omega)⟩
theorem Bif{t:List UInt8}{i fr ov}(hn:∀w∈wl ov,w≠[])(hf:fr<i)(hi:i≤t.length):∀w∈wl (ov++[bs ((t.take i).drop fr)]),w≠[]:=fun w hw=>by
 rw[Aub]at hw
 rcases Of.1 hw with h|h
 ·exact hn w h
 ·rw[Sl.1 (show w∈[(t.take i).drop fr] from h)]
  intro hc
  have:=congrArg List.length hc
  rw[Wb hi]at this
  simp at this;omega
theorem Bsi{t i fr ov c}(h:Aca t i fr ov)(hc:t[i]?=some c)(h32:c=32)(hne:i≠fr):Aca t (i+1) (i+1) (ov++[bs ((t.take i).drop fr)]):=by
 have hi:i<t.length:=(Mq.1 hc).1
 obtain⟨hf,hs⟩:=h.2.1 (by omega)
 refine⟨Bif h.1 (by omega) (by omega),fun _=>⟨Lb _,?_⟩,fun hx=>absurd hx (by omega)⟩
 rw[hs,Vb hc,Aub,Agx]
 show wl ov++(if c=32 then _ else _)=_
 rw[if_pos h32,lZ9];rfl
theorem Bsj{t i fr ov}(h:Aca t i fr ov)(hi:i=t.length)(hne:i≠fr):Aca t (i+1) (i+1) (ov++[bs ((t.take i).drop fr)]):=by
 obtain⟨hf,hs⟩:=h.2.1 (by omega)
 refine⟨Bif h.1 (by omega) (by omega),fun hx=>absurd hx (by omega),fun _=>?_⟩
 rw[hs,hi,Bcd,Aub];rfl
theorem Bvj{t i fr ov c}(h:Aca t i fr ov)(hc:t[i]?=some c)(h32:c≠32):Aca t (i+1) fr ov:=by
 have hi:i<t.length:=(Mq.1 hc).1
 obtain⟨hf,hs⟩:=h.2.1 (by omega)
 refine⟨h.1,fun _=>⟨by omega,?_⟩,fun hx=>absurd hx (by omega)⟩
 rw[hs,Vb hc,←Arc hc hf]
 show wl ov++(if c=32 then _ else _)=_
 rw[if_neg h32]
def Na(s:List UInt8):Bool:=(Hn s).any List.isEmpty
theorem Big{t i fr ov}(h:Aca t i fr ov)(hi:i≤t.length)(hb:i=t.length∨t[i]?=some 32)(he:i=fr):Na t=true:=by
 obtain⟨hf,hs⟩:=h.2.1 hi
 unfold Na
 rw[hs,List.any_append,←he,Agx]
 have:(Nz 32 [] (t.drop i)).any List.isEmpty=true:=by
  rcases hb with hb|hb
  ·rw[hb,Bcd];rfl
  ·rw[Vb hb];rfl
 rw[this,Bool.or_true]
theorem Bvk{t i fr ov}(h:Aca t i fr ov)(hi:t.length<i):Na t=false∧Hn t=wl ov:=by
 have hs:=h.2.2 hi
 refine⟨?_,hs⟩
 unfold Na
 rw[hs,Avz]
 intro w hw hc
 exact h.1 w hw (List.isEmpty_iff.1 hc)
theorem Wt:∀{s acc:List UInt8},Nz 32 acc s≠[]
 | [],_=>by simp[Nz]
 | x::s,acc=>by
  show (if x=32 then _ else _)≠[]
  split
  ·simp
  ·exact Wt
theorem Akt{d:List UInt8}{i c}(h:d[i]?=some c):Aii (d.take (i+1))=10*Aii (d.take i)+(c.toNat-48):=by rw[Mv h,Avf]
theorem Brw{c}(h1:¬((c.toNat:Nat):Int)<48)(h2:¬((c.toNat:Nat):Int)>57):Mg c=true:=by
 unfold Mg;simp;omega
theorem Bgt{d:List UInt8}{i c}(h:d[i]?=some c)(ha:(d.take i).all Mg=true)(hc:Mg c=true):(d.take (i+1)).all Mg=true:=by
 rw[Mv h,List.all_append,ha];simp[hc]
theorem Bbl{d:List UInt8}{i:Nat}{c}(h:d[i]?=some c)(hc:Mg c=false):d.all Mg=false:=by
 rw[List.all_eq_false]
 exact⟨c,lZ8 h,by rw[hc];simp⟩
theorem Avi{c}(h1:((c.toNat:Nat):Int)<48):Mg c=false:=by
 unfold Mg;simp;omega
theorem Avj{c}(h1:((c.toNat:Nat):Int)>57):Mg c=false:=by
 unfold Mg;simp;omega
theorem Aiu:∀{n:Nat} {d:List UInt8},d.all Mg=true→d.length≤n→Aii d<10^n
 | n,d=>by
  intro ha hl
  have key:∀(l:List UInt8) (a k:Nat),l.all Mg=true→a<10^k→l.foldl (fun n c=>10*n+(c.toNat-48)) a<10^(k+l.length):=by
   intro l
   induction l with
   | nil=>intro a k _ h;simpa using h
   | cons c l ih =>
    intro a k ha h
    simp only[Bck,Tj]at ha
    have hc:c.toNat-48≤9:=by have:=ha.1;unfold Mg at this;simp at this;omega
    have:=ih (10*a+(c.toNat-48)) (k+1) ha.2 (by rw[Nat.pow_succ];omega)
    rw[List.foldl_cons,lZ3,show k+(l.length+1)=k+1+l.length by omega]
    exact this
  have b:=key d 0 0 ha (by decide)
  rw[Zp]at b
  exact Adf b (Bby (by decide) hl)
theorem Arq{s}(h:Nd s=true):(s.take s.length).drop 1=Ha s:=by unfold Ha;rw[h,if_pos rfl,Qa]
theorem Ayj{s}(h:Nd s=false):Ha s=s:=by unfold Ha;rw[h];rfl
theorem Aso{s}:(Ha s).length≤s.length:=by
 unfold Ha;split
 ·rw[lZ5];omega
 ·exact Lb _
theorem Bdt{s}(h:Nd s=true):1<s.length:=by
 unfold Nd at h;rw[Tj]at h;exact lZ2 h.1
theorem Bcq{s c}(h1:((s.length:Nat):Int)>1)(hc:s[0]?=some c)(h:c=45):Nd s=true:=by
 unfold Nd
 rw[Oe (by omega)]
 cases s with
 | nil=>cases hc
 | cons a r=>simp at hc;subst hc;rw[h];rfl
theorem Aja{s}(h:¬((s.length:Nat):Int)>1∨∃c,s[0]?=some c∧c≠45):Nd s=false:=by
 unfold Nd
 rcases h with h|⟨c,h1,h2⟩
 ·rw[Jw (by omega)];rfl
 ·cases s with
  | nil=>cases h1
  | cons a r=>simp at h1;subst h1;simp[h2]
theorem Boi{s}(h:¬(1≤(Ha s).length∧(Ha s).length≤9)):Gn s=false:=by
 unfold Gn
 by_cases h1:1≤(Ha s).length
 ·rw[Jw (by omega:¬(Ha s).length≤9)];simp
 ·rw[Jw h1];simp
theorem Bcs{s}(h:(Ha s).all Mg=false):Gn s=false:=by unfold Gn;rw[h];simp
theorem Awu{s c}(hc:(Ha s)[0]?=some c)(h:c=48)(hs:s≠[48]):Gn s=false:=by
 unfold Gn
 cases hb:Ha s with
 | nil=>rw[hb]at hc;cases hc
 | cons a r=>rw[hb]at hc;simp at hc;subst hc;rw[h];simp[hs]
theorem Bjz{s}(h1:1≤(Ha s).length)(h9:(Ha s).length≤9)(ha:(Ha s).all Mg=true)(hz:∀c,(Ha s)[0]?=some c→c≠48∨s=[48]):Gn s=true:=by
 unfold Gn
 rw[Oe h1,Oe h9,ha]
 cases hb:Ha s with
 | nil=>rw[hb]at h1;simp at h1
 | cons a r =>
  rcases hz a (by rw[hb];rfl) with h|h
  ·simp[h]
  ·simp[h]
def De(s:List UInt8):Int:=if Gn s then Zq s else 0
theorem Agu{s}(h:Gn s=false):De s=0:=by unfold De;rw[h];rfl
theorem Ame{s}(h:Gn s=true):De s=Zq s:=by unfold De;rw[h,if_pos rfl]
theorem Bpp{ov a}(h:ov[0]?=some a):wl ov=a.data.toList::wl (ov.drop 1):=by
 cases ov with
 | nil=>cases h
 | cons b r=>simp at h;subst h;rfl
theorem Bty{ov t}(h:Hn t=wl ov):0<ov.length:=by
 cases ov with
 | nil=>exact absurd h Wt
 | cons b r=>simp
theorem Btd{s:List UInt8}{c:UInt8}(hc:s[0]?=some c)(h:s.length≤1)(e:c=48):s=[48]:=by
 match s,hc,h with
 | [a],hc,_=>simp at hc;rw[hc,e]
theorem Bjy{s:List UInt8}(h:s.length>1):s≠[48]:=fun e=>by rw[e]at h;simp at h
def Zr(s:List UInt8)(i:Nat):Prop:=Ue [] s=Ue (s.take i) (s.drop i)
theorem Bvf{s}:Zr s 0:=rfl
theorem Bhu{s i c}(h:Zr s i)(hc:s[i]?=some c)(hn:c≠46∨s[i+1]?≠some 46):Zr s (i+1):=by
 unfold Zr at *
 rw[h,Vb hc,Mv hc]
 show (if c=46∧(s.drop (i+1)).head?=some 46 then _ else _)=_
 rw[if_neg]
 rintro⟨b,a⟩
 rw[List.head?_drop]at a
 rcases hn with h|h
 ·exact h b
 ·exact h a
theorem Bry{s i c e}(h:Zr s i)(hc:s[i]?=some c)(h1:c=46)(he:s[i+1]?=some e)(h2:e=46):Ue [] s=some (s.take i,s.drop (i+2)):=by
 unfold Zr at h
 rw[h,Vb hc]
 show (if c=46∧(s.drop (i+1)).head?=some 46 then _ else _)=_
 rw[if_pos ⟨h1,by rw[List.head?_drop,he,h2]⟩,Awi]
theorem Bht{s i}(h:Zr s i)(hi:s.length≤i+1):Ue [] s=none:=by
 unfold Zr at h
 rw[h]
 rcases Tc i s.length with hl|hl
 ·rw[Vb (Sr hl),Azt (by omega)]
  show (if s[i]=46∧([]:List UInt8).head?=some 46 then _ else _)=_
  rw[if_neg (by simp)];rfl
 ·rw[Azt hl];rfl
theorem Po{α β:Type}{f:α→Option β}:∀{l:List α} {i:Nat} {x:α},l[i]?=some x→f x=none→Hy f l=none
 | [],_,_,h,_=>by cases h
 | a::l,0,x,h,hx=>by
  simp at h;subst h
  show (match f a,Hy f l with|some a,some r=>_|_,_=>none)=none
  rw[hx]
 | a::l,i+1,x,h,hx=>by
  show (match f a,Hy f l with|some a,some r=>_|_,_=>none)=none
  rw[Po (l:=l) (i:=i) (by simpa using h) hx]
  cases f a<;>rfl
theorem Ajm{α β:Type}{f:α→Option β}:∀{l:List α} {r:List β} {x:α} {y:β},Hy f l=some r→f x=some y→Hy f (l++[x])=some (r++[y])
 | [],r,x,y,h,hx=>by
  have:r=[]:=(Option.some.inj h).symm
  subst this
  show (match f x,Hy f [] with|some a,some r=>some (a::r)|_,_=>none)=_
  rw[hx];rfl
 | a::l,r,x,y,h,hx=>by
  have h':(match f a,Hy f l with|some a,some r=>some (a::r)|_,_=>none)=some r:=h
  cases ha:f a with
  | none=>rw[ha]at h';cases h'
  | some b =>
   cases hl:Hy f l with
   | none=>rw[ha,hl]at h';cases h'
   | some r' =>
    rw[ha,hl]at h'
    obtain rfl:=Option.some.inj h'
    show (match f a,Hy f (l++[x]) with|some a,some r=>some (a::r)|_,_=>none)=_
    rw[ha,Ajm hl hx];rfl
theorem Vv{α β:Type}{f:α→Option β}{l:List α}{i:Nat}{r:List β}{x:α}{y:β}(h:Hy f (l.take i)=some r)(hx:l[i]?=some x)(hy:f x=some y):Hy f (l.take (i+1))=some (r++[y]):=by
 rw[Mv hx];exact Ajm h hy
theorem Vo{s}:-1000000000<De s∧De s<1000000000:=by
 unfold De
 split
 ·rename_i h
  have hh:=h
  unfold Gn at h
  simp only[Tj,decide_eq_true_eq]at h
  have:=Aiu (n:=9) h.1.2 h.1.1.2
  unfold Zq
  split<;>omega
 ·omega
theorem Zb{s}(h:Gn s=true):Vn s=some (De s):=by unfold Vn;rw[h,if_pos rfl,Ame h]
theorem Agt{s}(h:Gn s=false):Vn s=none:=by unfold Vn;rw[h];rfl
theorem Wr{s a b}(h:Ue [] s=some (a,b)):Ii s=if (Gn a&&Gn b&&De a != De b)=true then some ⟨De a,De b⟩ else none:=by
 unfold Ii
 rw[h]
 simp only
 cases ha:Gn a with
 | false=>rw[Agt ha];rfl
 | true =>
  cases hb:Gn b with
  | false=>rw[Zb ha,Agt hb];rfl
  | true =>
   rw[Zb ha,Zb hb]
   simp only
   by_cases e:De a=De b
   ·rw[if_pos e,if_neg (by simp[e])]
   ·rw[if_neg e,if_pos (by simp[e])]
theorem Amt{s}(h:Ue [] s=none):Ii s=if Gn s=true then some ⟨De s,De s⟩ else none:=by
 unfold Ii
 rw[h]
 simp only
 cases ha:Gn s with
 | false=>rw[Agt ha];rfl
 | true=>rw[Zb ha];rfl
theorem Aql{a l s}:findI (a::l) s=if a.data.toList=s.data.toList then 0 else if findI l s<0 then -1 else findI l s+1:=by
 have b:Xi (a::l) s 0=decide (a.data.toList=s.data.toList):=by
  show (a.toList==s.toList)=_
  rw[Aic,Aic]
  by_cases h:a.data.toList=s.data.toList
  ·rw[h];simp
  ·rw[Jw h];exact beq_eq_false_iff_ne.2 h
 have c:∀j,Xi (a::l) s (j+1)=Xi l s j:=fun j=>rfl
 by_cases h:a.data.toList=s.data.toList
 ·rw[if_pos h]
  unfold findI
  rw[Fh (i:=0) (fun j hj=>absurd hj (by omega)) (by simp) (by rw[b,Oe h])];rfl
 ·rw[if_neg h]
  rw[Jw h]at b
  unfold findI
  rcases Ft (n:=l.length) (p:=Xi l s) with⟨i,hi,hp,hlt,he⟩|⟨d,he⟩
  ·rw[he,Fh (i:=i+1) (fun j hj=>by
    cases j with
    | zero=>exact b
    | succ j=>rw[c];exact Bcb.2 (fun hc=>by have:=hlt j (by omega);rw[hc]at this;cases this)) (by simp;omega) (by rw[c];exact hp)]
   simp only
   rw[if_neg (by omega)];omega
  ·rw[he,Ep (fun j hj=>by
    cases j with
    | zero=>exact b
    | succ j=>rw[c];exact d j (by simp at hj;omega))]
   simp
theorem Bfl{u}(h:u≠Ot):findI [bs wLab,bs Pj,bs Pt,bs Fv,bs Md,bs Ob,bs Im,bs Od] (bs u)=Ji u:=by
 have e:∀w:List UInt8,((bs w).data.toList=(bs u).data.toList)=(u=w):=fun w=>by show (w=u)=_;exact propext eq_comm
 have a:findI [] (bs u) = -1:=rfl
 unfold Ji
 rw[if_neg h]
 simp only[Aql,e,a]
 by_cases h0:u=wLab
 ·simp[h0]
 by_cases h1:u=Pj
 ·subst h1;decide
 by_cases h2:u=Pt
 ·subst h2;decide
 by_cases h3:u=Fv
 ·subst h3;decide
 by_cases h4:u=Md
 ·subst h4;decide
 by_cases h5:u=Ob
 ·subst h5;decide
 by_cases h6:u=Im
 ·subst h6;decide
 by_cases h7:u=Od
 ·subst h7;decide
 simp[h0,h1,h2,h3,h4,h5,h6,h7]
theorem isSome_if{α:Type}{c x}:(if c=true then some x else none:Option α).isSome=c:=by cases c<;>rfl
theorem eq_if{α:Type}{c x y}(h:(if c=true then some x else none:Option α)=some y):y=x:=by
 cases c
 ·cases h
 ·exact(Option.some.inj h).symm
theorem Aix{s i c e}(h:Zr s i)(hc:s[i]?=some c)(h1:c=46)(he:s[i+1]?=some e)(h2:e=46):Ue [] s=some ((s.take i).drop 0,(s.take s.length).drop (i+2)):=by
 rw[Bry h hc h1 he h2,Qa];rfl
theorem Bpc{s y}(h:(Ii s).isSome=true)(hx:∀x,Ii s=some x→x=y):Ii s=some y:=by
 cases hs:Ii s with
 | none=>rw[hs]at h;cases h
 | some x=>rw[hx x hs]
end
section
open Go
theorem Aab{n p q}(h:∀i,i<n→p i=q i):Cl n p=Cl n q:=by
 rcases Ft (n:=n) (p:=q) with⟨i,hi,hp,hj,he⟩|⟨a,he⟩
 ·rw[he];exact Fh (fun j hj'=>by rw[h j (by omega)];exact hj j hj') hi (by rw[h i hi];exact hp)
 ·rw[he];exact Ep fun j hj=>by rw[h j hj];exact a j hj
def Ve(c:UInt8)(p:List UInt8):Int:=Oi p (fun x=>x==c)
theorem Vy{c p}:(∃i:Nat,Ve c p=(i:Int)∧i<p.length∧p[i]?=some c∧∀j,j<i→p[j]?≠some c)∨(Ve c p = -1∧∀x∈p,x≠c):=by
 unfold Ve Oi
 rcases Ft (n:=p.length) (p:=atP p (fun x=>x==c)) with⟨i,hi,hp,hj,he⟩|⟨a,he⟩
 ·refine .inl ⟨i,by rw[he],hi,?_,fun j hj' hc=>?_⟩
  ·obtain⟨x,hx⟩:=Ed hi
   simp only[atP,hx]at hp
   rw[hx,eq_of_beq hp]
  ·have:=hj j hj'
   simp only[atP,hc]at this
   simp at this
 ·refine .inr ⟨by rw[he],fun x hx hc=>?_⟩
  obtain⟨i,hi⟩:=Apf.1 hx
  have:=a i (Mq.1 hi).1
  simp only[atP,hi,hc]at this
  simp at this
theorem Brd{p i}(h:i<p.length):p[i]?=some ((bs p)[i]!):=by
 show _=some ((ByteArray.mk p.toArray)[i]!)
 rw[Go.Lib.get!_eq,Alq,Sr h];rfl
theorem Apy{c}:Extern.Bytes.asByte (.int .u8 (c.toNat:Int))=Sem.pure c:=by
 show Sem.pure ((c.toNat:Int).toNat.toUInt8)=_
 rw[Awf]
 show Sem.pure (UInt8.ofNat c.toNat)=_
 rw[UInt8.ofNat_toNat]
theorem Bnx{P ρ σ p c}:wpS P ρ (Extern.BytealgIndexByte.indexByte #[.string (bs p),.int .u8 (c.toNat:Int)]) σ (fun w σ'=>w = .int .i64 (Ve c p)∧σ'=σ):=by
 unfold Extern.BytealgIndexByte.indexByte
 show wpS P ρ ((Extern.Bytes.bytesOf (.string (bs p))).bind _) σ _
 rw[Ad]
 show wpS P ρ ((Extern.Bytes.asByte (.int .u8 (c.toNat:Int))).bind _) σ _
 rw[Ad,Apy]
 have e:((List.range (bs p).size).find? fun i=>(bs p)[i]! == c)=Cl p.length (atP p (fun x=>x==c)):=by
  rw[Oz]
  exact Aab fun i hi=>by simp only[atP,Brd hi]
 show wpS P ρ (match (List.range (bs p).size).find? fun i=>(bs p)[i]! == c with|some i=>pure (goInt i)|none=>pure (goInt (-1))) σ _
 rw[e]
 unfold Ve Oi
 cases Cl p.length (atP p (fun x=>x==c))<;>exact⟨rfl,rfl⟩
theorem Bnw{P ρ σ p c}:wpS P ρ (Extern.BytealgCount.count #[.string (bs p),.int .u8 (c.toNat:Int)]) σ (fun w σ'=>w = .int .i64 ((p.count c:Nat):Int)∧σ'=σ):=by
 unfold Extern.BytealgCount.count
 show wpS P ρ ((Extern.Bytes.bytesOf (.string (bs p))).bind _) σ _
 rw[Ad]
 show wpS P ρ ((Extern.Bytes.asByte (.int .u8 (c.toNat:Int))).bind _) σ _
 rw[Ad,Apy]
 show goInt ((bs p).foldl (fun (n:Int) x=>if x==c then n+1 else n) ((0:Nat):Int)) = .int .i64 ((p.count c:Nat):Int)∧σ=σ
 rw[Go.Lib.foldl_data,Go.Lib.count_foldl]
 exact⟨by show Value.int .i64 (0+_)=_;rw[Int.zero_add];rfl,rfl⟩
theorem Bnj{α:Type}{s:List α}{m:Nat}{c:α}(h:s[m]?=some c):s=s.take m++c::s.drop (m+1):=by
 conv=>lhs;rw[←Aip m s]
 rw[Vb h]
theorem Axh{s m}(h:s[m]?=some 32)(hj:∀j,j<m→s[j]?≠some 32):Hn s=s.take m::Hn (s.drop (m+1)):=by
 conv=>lhs;rw[Bnj h]
 unfold Hn
 rw[Amu (fun c hc he=>?_),Zm]
 obtain⟨j,hj'⟩:=Apf.1 hc
 rw[Agn]at hj'
 split at hj'
 ·rename_i hlt;exact hj j hlt (by rw[hj',he])
 ·cases hj'
theorem Axi{s}(h:∀x∈s,x≠32):Hn s=[s]:=by
 unfold Hn;rw[Amw h,Zm]
theorem Ahb:∀{s acc:List UInt8},(Nz 32 acc s).length=s.count 32+1
 | [],acc=>rfl
 | x::s,acc=>by
  show (if x=32 then acc::Nz 32 [] s else Nz 32 (acc++[x]) s).length=_
  rw[List.count_cons]
  split
  ·rename_i h;rw[lZ3,Ahb,h];simp
  ·rename_i h;rw[Ahb];simp[h]
theorem Arl{s}:(Hn s).length=s.count 32+1:=Ahb
theorem Brt{s:List UInt8}{c}:s.count c≤s.length:=List.count_le_length
theorem Ban{L:List (List UInt8)}{s i}(h:L.drop i=Hn s)(hi:i+1<L.length):∃m:Nat,Ve 32 s=(m:Int)∧m<s.length∧L[i]?=some (s.take m)∧L.drop (i+1)=Hn (s.drop (m+1)):=by
 rcases Vy (c:=32) (p:=s) with⟨m,b,a,d,e⟩|⟨b,a⟩
 ·rw[Axh d e]at h
  refine⟨m,b,a,?_,?_⟩
  ·have:=congrArg (·[0]?) h
   simpa[Yz]using this
  ·have:=congrArg (List.drop 1) h
   rw[Awi]at this
   simpa using this
 ·rw[Axi a]at h
  have:=congrArg List.length h
  rw[lZ5]at this
  simp at this;omega
theorem Bam{L:List (List UInt8)}{s i}(h:L.drop i=Hn s)(hi:i+1=L.length):L[i]?=some s:=by
 have hl:=congrArg List.length h
 rw[lZ5]at hl
 rcases Vy (c:=32) (p:=s) with⟨m,b,a,d,e⟩|⟨b,a⟩
 ·rw[Axh d e,lZ3,Arl]at hl;omega
 ·rw[Axi a]at h
  have:=congrArg (·[0]?) h
  simpa[Yz]using this
def spW(L:List (List UInt8))(i:Nat):List ByteArray:=bw (L.take i)++List.replicate (L.length-i) (ByteArray.mk #[])
theorem Bvw{L n}(h:n=L.length):List.replicate n (ByteArray.mk #[])=spW L 0:=by
 unfold spW;rw[h];rfl
theorem Oq{L i}(h:i≤L.length):(spW L i).length=L.length:=by
 unfold spW bw;rw[lZ0,Xp,lZ6,Yy];omega
theorem Bdb{L i w}(h:L[i]?=some w):(spW L i).set i (bs w)=spW L (i+1):=by
 have hi:i<L.length:=(Mq.1 h).1
 unfold spW
 have hl:(bw (L.take i)).length=i:=by unfold bw;rw[Xp,lZ6];omega
 rw[List.set_append_right _ _ (by omega),hl,Aqu,show L.length-i=(L.length-(i+1))+1 by omega,Bjb,Bfa,Mv h]
 unfold bw
 rw[Ql,lZ9];rfl
theorem Bpb{L i}(h:i=L.length):(spW L i).take i=bw L:=by
 unfold spW;rw[h,Qa,Aqu,List.replicate_zero,Za]
 exact Aad (by unfold bw;simp)
theorem Bue{P ρ e ty x y k}{a b r:Nat}{tys}(h:min a b=r)(hx:Af e x = .int k (a:Int))(hy:Af e y = .int k (b:Int)):Yld P ρ e (.call ⟨.builtin .min,#[x,y],tys⟩) ty (.int k (r:Int)):=by
 have c:=Ajx (P:=P) (ρ:=ρ) (ty:=ty) (tys:=tys) hx hy
 rwa[show min (a:Int) (b:Int)=(r:Int) by omega]at c
theorem Axe{ρ:Ro}:∀(n:Nat),Rows ρ (List.replicate n (Value.string (ByteArray.mk #[]))) (List.replicate n (ByteArray.mk #[]))
 | 0=>rfl
 | n+1=>⟨[.string (ByteArray.mk #[])],List.replicate n (.string (ByteArray.mk #[])),rfl,⟨rfl,by show (0:Nat)<_;decide⟩,Axe n⟩
section
variable{C:Ctx}{e:Env}{ds:List Deferred}{ρ:Ro}{σ:Own}{K:Value→List Deferred→Ro→Own→Prop}{rd:Option Nat}{dd:Option Tmp}
variable{ty:TypeId}{pos:String}{af:Array Edge}{g:Option (Nat×Bool)}{x y:Operand}{t:TypeId}
theorem Baw{el ti}{n:Nat}(hT:C.P.underlying t=some (.slice el))(hi:C.P.info? el=some ti)(hik:ti.size=1)(hib:ti.bytes≤1000)(hz:ti.zero=some (.string (ByteArray.mk #[])))(hx:Af e x = .int .i64 (n:Int))(hy:Af e y = .int .i64 (n:Int))(hn:n<1073741824)(h:∀v gr,Grow ρ el v (List.replicate n (ByteArray.mk #[])) gr→K v ds ρ (gr++σ)):
  wpS C.P ρ (execOp (Af e) ⟨dd,.makeSlice t x y,ty,pos,af,g⟩) σ (NextH C K rd ds ρ) :=
 Axt hT hi hik hib hz rfl hx hy hn fun r=>h _ [_] ⟨fun p hp=>by rw[Sl.1 hp];exact⟨_,rfl⟩,by rw[Yy];omega,.inr ⟨r,n,List.replicate n (.string (ByteArray.mk #[])),[],[],by rw[Yy],by rw[Za],Axe n,by rw[Za,Yy];exact(Ahr n).symm,by rw[Yy];exact Lb _⟩⟩
end
end
section
open Go
/-- Without a line feed at the end. -/
def Wi(p:List UInt8):List UInt8:=if (p.drop (p.length-1)==[10])=true then p.take (p.length-1) else p
theorem Bqr{c}(h:([32]:List UInt8)[0]?=some c):c=32:=by simpa using h.symm
variable{mn:Bool}{X:Frame→List Frame→Ro→Own→Cy→Prop}{ρ:Ro}{σ:Own}
theorem Aus{p}(hb:p.length≤60000):CallsH (CX mn X) 148 #[.string (bs p),.string (bs ([10]:List UInt8))] ρ σ (rP ρ σ (.bool (p.drop (p.length-1)==[10]))):=by
 refine Bq 21 [4] Tryz.func148 rfl fun Q b i=>w_q rfl rfl fun f d=>Au bF (Dr d fun g c=>Av (.string (bs p)) (l_v (Ga Bwz rfl) (Av _ (l_v (Ga Bwz rfl) (l_v (Rw) (Av _ (Cn (decide ((p.length:Int)≥1)) (fun a=>?_) (fun a=>?_))))))))
 ·have e:=lZ2 a
  refine Me _ (gYZ a) (Me _ (gYZ a) (Aa (gYZ a) (Ga Bwz rfl) (Me _ (gYZ a) (Aa (gYZ a) (Ga Bwz rfl) (Aa (gYZ a) (Ou (p:=(p.length:Int)) (q:=1) rfl rfl (Bo (by omega) (by omega) (by omega))) (Aa (gYZ a) (Td (l:=p.length-1) (h:=p.length) Bwz rfl (.inr ⟨_,rfl,rfl⟩) (.inl ⟨rfl,rfl⟩) (by omega) (by omega)) (Me _ (gYZ a) (Aa (gYZ a) (Sp rfl rfl) (l_v (Es a) (Au _ (l_k c (Aq (b ⟨rfl,rfl,eT (.bool ((((p.take p.length).drop (p.length-1)))==([10]:List UInt8))) ?_⟩)))))))))))))
  rw[Qa]
 have e:=lZ1 a
 refine Ap (gNZ a) (Ap (gNZ a) (Ap (gNZ a) (Ap (gNZ a) (Ap (gNZ a) (Ap (gNZ a) (Ap (gNZ a) (Ap (gNZ a) (Ap (gNZ a) (l_v (En a (v:=bF)) (Au bF (l_k c (Aq (b (rT bF ?_))))))))))))))
 have hp:p=[]:=Ain (by omega)
 subst hp;rfl
theorem Beg{p}(hb:p.length≤60000):CallsH (CX mn X) 121 #[.string (bs p),.string (bs ([10]:List UInt8))] ρ σ (rP ρ σ (.string (bs (Wi p)))):=by
 refine Bq 16 [4] Tryz.func121 rfl fun Q b n=>w_q rfl rfl fun i c=>Au (.string (ByteArray.mk #[])) (Ds c fun j k d e=>Av (.string (bs p)) (Av _ (Arv (Ce (Aus (by omega)) Tryz.func148 ?_))))
 refine l_k e (Cw (fun a=>?_) (fun a=>?_))
 ·have t:1≤p.length:=by
   cases p with
   | nil=>exact absurd a (by decide)
   | cons=>simp
  refine Cr fun l f=>Av (.string (bs p)) (Av _ (l_v (Ga Bwz rfl) (Av _ (l_v (Ga Bwz rfl) (l_v (Ou (p:=(p.length:Int)) (q:=1) rfl rfl (Bo (by omega) (by omega) (by omega))) (l_v (Td (h:=p.length-1) Bwz rfl (.inl ⟨rfl,rfl⟩) (.inr ⟨_,rfl,rfl⟩) (by omega) (by omega)) (Au _ (l_k f (Aq (b ⟨rfl,rfl,eT _ ?_⟩))))))))))
  unfold Wi;rw[a];rfl
 refine Al (kk d ?_)
 refine Cr fun m g=>Av (.string (bs p)) (Au _ (l_k g (Aq (b (rT _ ?_)))))
 unfold Wi;rw[a];rfl
theorem Asr{p}(hb:p.length≤60000):CallsH (CX mn X) 89 #[.string (bs p),.string (bs ([10]:List UInt8))] ρ σ (rP ρ σ (.string (bs (Wi p)))):=by
 refine Bq 8 [4] Tryz.func89 rfl fun Q a f=>w_q rfl rfl fun d b=>Au (.string (ByteArray.mk #[])) (Dr b fun e c=>Av (.string (bs p)) (Av _ (Arv (Ce (Beg (by omega)) Tryz.func121 ?_))))
 refine Au _ (l_k c (Aq (a (rT _ ?_))))
 rfl
theorem Act{p c}:CallsH (CX mn X) 141 #[.string (bs p),.int .u8 (c.toNat:Int)] ρ σ (rP ρ σ (iV (Ve c p))):=by
 refine Bq 8 [4] Bzq rfl fun Q a g=>w_q rfl rfl fun e b=>Au (iV 0) (Dr b fun f d=>Av (.string (bs p)) (Av _ (Alw rfl Tryz.func156 rfl rfl rfl rfl (Awq rfl rfl) (Bnx) (Au _ (l_k d (Aq (a (rT _ ?_))))))))
 rfl
theorem Bec{p c}:CallsH (CX mn X) 118 #[.string (bs p),.int .u8 (c.toNat:Int)] ρ σ (rP ρ σ (iV (Ve c p))):=by
 refine Bq 8 [4] Tryz.func118 rfl fun Q a g=>w_q rfl rfl fun e b=>Au (iV 0) (Dr b fun f d=>Av (.string (bs p)) (Av _ (Arv (Ce (Act) Bzq ?_))))
 refine Au _ (l_k d (Aq (a (rT _ ?_))))
 rfl
theorem Bmq{p}:CallsH (CX mn X) 182 #[.string (bs p),.string (bs ([32]:List UInt8))] ρ σ (rP ρ σ (iV (Ve 32 p))):=by
 refine Bq 143 [4] Bzs rfl fun Q d x=>w_q rfl rfl fun m e=>Au (iV 0) (Dr e fun n f=>Av (.string (bs ([32]:List UInt8))) (l_v (Ga Bwz rfl) (Au _ (Asa f fun q z=>Ao (Cr fun t g=>Av (iV 1) (l_v (Hs) (Av bF (Me _ (gYZ rfl) (Me _ (gYZ rfl) (Aa (gYZ rfl) (Sp rfl rfl) (l_v (En rfl) (Au _ (l_k g (Cw (fun a=>?_) (fun a=>?_)))))))))))))))
 ·have l:=Jr a
  refine Cr fun u h=>Au (iV 0) (l_k h (Aq (d (rT (iV 0) ?_))))
  have hp:=eq_of_beq a
  rw[←hp];rfl
 have l:=Jq a
 refine Cr fun v j=>Av (iV 1) (l_v (Hs) (Au bT (l_k j (Et (Cr fun w k=>Av (.string (bs p)) (Av (.string (bs ([32]:List UInt8))) ?_))))))
 obtain⟨b,c⟩:=Va (p:=([32]:List UInt8)) (i:=0) (by decide)
 have y:=b.toNat_lt
 refine l_v (Mw 0 b Bwz rfl rfl rfl c) (Arv (Ce (Act) Bzq ?_))
 refine Au _ (l_k k (Aq (d (rT (iV (Ve b p)) ?_))))
 rw[Bqr c]
theorem Bri{p}:CallsH (CX mn X) 167 #[.string (bs p),.string (bs ([32]:List UInt8))] ρ σ (rP ρ σ (iV (Ve 32 p))):=by
 refine Bq 8 [4] Tryz.func167 rfl fun Q a f=>w_q rfl rfl fun d b=>Au (iV 0) (Dr b fun e c=>Av (.string (bs p)) (Av _ (Arv (Ce (Bmq) Bzs ?_))))
 refine Au _ (l_k c (Aq (a (rT _ ?_))))
 rfl
theorem Bmp{p}{m:Nat}(h:Ve 32 p=(m:Int)):CallsH (CX mn X) 167 #[.string (bs p),.string (bs ([32]:List UInt8))] ρ σ (rP ρ σ (iV m)):=by
 rw[←h];exact Bri
theorem Bmm{p}:CallsH (CX mn X) 166 #[.string (bs p),.string (bs ([32]:List UInt8))] ρ σ (rP ρ σ (iV (p.count 32:Nat))):=by
 refine Bq 34 [4] Tryz.func166 rfl fun Q c t=>w_q rfl rfl fun j d=>Au (iV 0) (Ds d fun k l e f=>Av (.string (bs ([32]:List UInt8))) (l_v (Ga Bwz rfl) (l_v (Hs) (l_k f (Dy rfl (Al (kk e ?_)))))))
 refine Gw fun m n u g=>Av (.string (bs ([32]:List UInt8))) (l_v (Ga Bwz rfl) (l_v (Hs) (l_k g (Et (Cr fun q h=>Av (.string (bs p)) (Av _ ?_))))))
 obtain⟨a,b⟩:=Va (p:=([32]:List UInt8)) (i:=0) (by decide)
 refine l_v (Mw 0 a Bwz rfl rfl rfl b) (Alw rfl Tryz.func181 rfl rfl rfl rfl (Awq rfl rfl) (Bnw) (Au _ (l_k h (Aq (c (rT (iV ((p.count a):Nat)) ?_))))))
 rw[Bqr b]
theorem Ayr{p}(hb:p.length≤60000):CallsH (CX mn X) 157 #[.string (bs p),.string (bs ([32]:List UInt8)),iV 0,iV (-1)] ρ σ (fun w ρ' σ'=>Ro.le ρ ρ'∧σ'=σ∧Val ρ' w (bw (Hn p):List ByteArray)):=by
 have hcl:=Brt (s:=p) (c:=32)
 have hsl:=Arl (s:=p)
 refine Bq 66 [8] Tryz.func157 rfl fun Q P ao=>w_q rfl rfl fun K1 R=>Au nS (Ds R fun K2 K3 k2 k3=>Av (iV (-1)) (l_v (Hs) (l_k k3 (Cg rfl rfl (Al (kk k2 ?_))))))
 refine Gw fun K4 K5 k4 k5=>Av (.string (bs ([32]:List UInt8))) (l_v (Sp (p:=([32]:List UInt8)) (q:=([]:List UInt8)) rfl rfl) (l_k k5 (Cg rfl (by decide) (Al (kk k4 ?_)))))
 refine Gw fun K6 K7 k6 k7=>Av (iV (-1)) (l_v (Fk) (l_k k7 (Et (Bf (Av _ (Av _ (Arv (Ce (Bmm (p:=p)) Tryz.func166 ?_))))))))
 refine l_v (Dm ((((p.count 32)+1):Nat):Int)) (Au _ (Dr k6 fun K8 k8=>Av (iV ((((p.count 32)+1):Nat):Int)) (Av _ (l_v (Ga Bwz (p:=p) rfl) (l_v (Dm (((p.length+1):Nat):Int)) (l_v (Bue (r:=0+(p.count 32+1)) (by omega) rfl rfl) ?_))))))
 obtain⟨n,hn_⟩:∃z:Nat,z=(0+(p.count 32+1)):=⟨_,rfl⟩
 refine l_v (Cp (v:=iV n) ((show _=Value.int .i64 ((((0+(p.count 32+1))):Nat):Int) from rfl).trans (by rw[hn_]))) ?_
 have hnL:n=(Hn p).length:=by omega
 refine Dr k8 fun K9 k9=>Av (iV n) (Arv (Baw (n:=n) Bwy (Ab Bxs) rfl nL rfl rfl rfl (by omega) fun C I E=>?_))
 refine Au C (Dr k9 fun a9 T=>Av (iV n) (l_v (Ou (p:=(n:Int)) (q:=1) rfl rfl (z:=(((n-1):Nat):Int)) (Bo (by omega) (by omega) (by omega))) (Au _ (Dr T fun aa U=>Au (iV 0) (Asa U fun ab V=>Ao (Cc (fun mm ee dd ρ' σ'=>∃(i:Nat) (s:List UInt8) (a:Value) (d:Own),(n-i)=mm∧[]=dd∧Ro.le ρ ρ'∧(d++σ)=σ'∧ee 1=(.string (bs ([32]:List UInt8)))∧ee 2=iV 0∧ee 3=(iV ((n-1):Nat))∧ee 0=(.string (bs s))∧ee 9=a∧ee 10=iV i∧(i+1≤n)∧((Hn p).drop i=Hn s)∧(s.length≤60000)∧Grow ρ' 9 a (spW (Hn p) i) d∧True) (m:=_) ⟨0,p,C,I,rfl,rfl,Cal,rfl,rfl,rfl,rfl,rfl,rfl,rfl,(by omega),(by rw[Air]),hb,Fy (Bvw hnL) E,trivial⟩ ?_))))))
 rintro aq al _ av _ ⟨i,s,a,d,rfl,rfl,y,rfl,k,u,x,g,j,b,ar,B,au,e,_⟩
 have ap:=Oq (L:=Hn p) (i:=i) (by omega)
 refine Gw fun ac ad W Y=>l_v (Ah b) (l_v (Ah x) (l_v (Fk) (l_k Y (Bu (t:=decide ((i:Int)<(((n-1):Nat):Int))) rfl (fun f=>?_) (fun f=>?_)))))
 ·obtain⟨m,M,an,N,O⟩:=Ban B (by have:=lZ2 f;omega)
  have a7:=lZ2 f
  refine Al (kk W ?_)
  refine Ao (Cr fun ae Z=>l_v (Ah g) (l_v (Ah k) (Arv (Ce (Bmp (p:=s) M) Tryz.func167 ?_))))
  refine Au _ (Ds Z fun af ag a0 a1=>Av (iV m) (l_v (Fk) (l_k a1 (Cg rfl (Jw (by omega)) (Al (kk a0 ?_))))))
  refine Cr fun ah a2=>l_v (Ah j) (l_v (Ah b) (l_v (Ah g) (Av _ (l_v (Ah u) (l_v (Dm (((m+0):Nat):Int)) (l_v (Td (p:=s) (l:=0) (h:=m+0) Bwz rfl (.inl ⟨rfl,rfl⟩) (.inr ⟨_,rfl,rfl⟩) (by first|omega|(rw[Oq (by omega)];omega)|(simp only[Ui];rw[Oq (by omega)];omega)) (by first|omega|(rw[Oq (by omega)];omega)|(simp only[Ui];rw[Oq (by omega)];omega))) (l_v (Nw i Bwy ty9.info rfl e (q:=(i:Int)) rfl rfl (by first|omega|(rw[Oq (by omega)];omega)|(simp only[Ui];rw[Oq (by omega)];omega)) rfl) (Cx rfl (Anh (σ:=σ) (gr:=d) (i:=i) (v:=a) (w:=.string (bs ((s.take (m+0)).drop 0))) ty9.info rfl rfl rfl (Fp (l:=(s.take (m+0)).drop 0) (by first|omega|(simp only[lZ5,lZ6];omega))) e (by rw[Oq (by omega)];omega) fun J F=>?_)))))))))
  refine Dr a2 fun ai a3=>l_v (Ah g) (Av _ (l_v (Ah k) (l_v (Ga Bwz (p:=([32]:List UInt8)) rfl) (l_v (Dm (((m+1):Nat):Int)) (l_v (Td (p:=s) (l:=m+1) (h:=s.length) Bwz rfl (.inr ⟨_,rfl,rfl⟩) (.inl ⟨rfl,rfl⟩) (by first|omega|(rw[Oq (by omega)];omega)|(simp only[Ui];rw[Oq (by omega)];omega)) (by first|omega|(rw[Oq (by omega)];omega)|(simp only[Ui];rw[Oq (by omega)];omega))) (Au _ (l_k a3 (Bf (l_v (Ah b) (l_v (Dm (((i+1):Nat):Int)) (Au _ (Ac ?_))))))))))))
  refine⟨_,?_,(i+1),((s.take s.length).drop (m+1)),a,J,rfl,rfl,y,rfl,k,u,x,rfl,j,rfl,(by omega),(by have:=O;simpa using this),(by simp only[lZ5,lZ6];omega),(Fy (Bdb N) F),trivial⟩
  omega
 have a7:=lZ1 f
 refine Bx (kk V ?_)
 refine Ai fun aj a4=>?_
 have K:=Bam B (by omega)
 refine Bf (l_v (Ah j) (l_v (Ah b) (l_v (Ah g) (l_v (Nw i Bwy ty9.info rfl e (q:=(i:Int)) rfl rfl (by first|omega|(rw[Oq (by omega)];omega)|(simp only[Ui];rw[Oq (by omega)];omega)) rfl) (Cx rfl (Anh (σ:=σ) (gr:=d) (i:=i) (v:=a) (w:=.string (bs s)) ty9.info rfl rfl rfl (Fp (l:=s) (by first|omega|(simp only[lZ5,lZ6];omega))) e (by rw[Oq (by omega)];omega) fun am G=>?_))))))
 refine Dr a4 fun ak a5=>l_v (Ah j) (l_v (Ah b) (l_v (Dm (((i+1):Nat):Int)) (Arw (Aos (i+1) Bwy ty9.2 rfl G rfl rfl (by first|omega|(rw[Oq (by omega)];omega)|(simp only[Ui];rw[Oq (by omega)];omega))) fun D H=>Au D (l_k a5 (Hc H fun aw a6 a8=>Aq (P ⟨Cam y a6,rfl,Abz (v:=D) rfl (Val.cast ?_ a8)⟩))))))
 ·rw[Bdb K,Bpb (by omega)]
theorem Bmw{p}(hb:p.length≤60000):CallsH (CX mn X) 142 #[.string (bs p),.string (bs ([32]:List UInt8))] ρ σ (fun w ρ' σ'=>Ro.le ρ ρ'∧σ'=σ∧Val ρ' w (bw (Hn p):List ByteArray)):=by
 refine Bq 8 [4] Tryz.func142 rfl fun Q c k=>w_q rfl rfl fun i d=>Au nS (Dr d fun j e=>Av (.string (bs p)) (Av _ (Arv (Fj (Ayr (by omega)) Tryz.func157 ⟨rfl,rfl,rfl,rfl,trivial⟩ fun h l m b=>?_))))
 obtain⟨f,a,g⟩:=b
 replace a:=a.symm;subst a
 refine Au h (l_k e (Aq (c ⟨f,rfl,Abz rfl (Val.cast ?_ g)⟩)))
 ·rfl
end
section
open Go
def dgT(i:Nat):List Bool:=(List.range 256).map fun k=>decide (48≤k)&&decide (k<48+i)
theorem Bvc:List.replicate 256 false=dgT 0:=by
 have:(List.replicate 256 false==dgT 0)=true:=by decide +kernel
 exact eq_of_beq this
theorem Bnm{i}(h:i<10):(dgT i).set (48+i) true=dgT (i+1):=by
 have key:(List.range 10).all (fun i=>(dgT i).set (48+i) true==dgT (i+1))=true:=by decide +kernel
 exact eq_of_beq (Tk.1 key i (Apo.2 h))
theorem Bnl{i}:(dgT i).length=256:=by unfold dgT;simp
theorem Bnk{c}:(dgT 10)[c.toNat]?=some (Mg c):=by
 have hc:=c.toNat_lt
 unfold dgT Mg
 rw[Vl,Biy (by omega)]
 simp only[Awh]
 congr 2
 rw[decide_eq_decide];omega
theorem Bmb:Fw Tryz.prog 283 (.agg ((List.replicate 256 false).map Value.bool).toArray):=⟨_,Ab Byp,by kernel_rfl⟩
def trR(p:List UInt8):List UInt8:=(p.reverse.dropWhile Mg).reverse
def trL(p:List UInt8):List UInt8:=p.dropWhile Mg
def Aie(p:List UInt8):List UInt8:=trL (trR p)
theorem Adg{s:List UInt8}{c:UInt8}(h:s[s.length-1]?=some c):s=s.take (s.length-1)++[c]:=by
 have hl:=(Mq.1 h).1
 have:=Mv h
 rw[show s.length-1+1=s.length by omega,Qa]at this
 exact this
theorem Bli{s c}(h:s[s.length-1]?=some c)(hd:Mg c=true):trR (s.take (s.length-1))=trR s:=by
 conv=>rhs;rw[Adg h]
 unfold trR
 rw[List.reverse_append]
 show _=(List.dropWhile Mg (c::(s.take (s.length-1)).reverse)).reverse
 rw[Bex,if_pos hd]
theorem Blj{s c}(h:s[s.length-1]?=some c)(hd:Mg c=false):trR s=s:=by
 conv=>lhs;rw[Adg h]
 unfold trR
 rw[List.reverse_append]
 show (List.dropWhile Mg (c::(s.take (s.length-1)).reverse)).reverse=_
 rw[Bex,if_neg (by simp[hd]),List.reverse_cons,List.reverse_reverse]
 exact(Adg h).symm
theorem Bpj{s}(h:s.length=0):trR s=s:=by
 rw[Ain h];rfl
theorem Blg{s c}(h:s[0]?=some c)(hd:Mg c=true):trL (s.drop 1)=trL s:=by
 cases s with
 | nil=>cases h
 | cons x r =>
  obtain rfl:x=c:=by simpa using h
  show trL r=List.dropWhile Mg (x::r)
  rw[Bex,if_pos hd];rfl
theorem Blh{s c}(h:s[0]?=some c)(hd:Mg c=false):trL s=s:=by
 cases s with
 | nil=>cases h
 | cons x r =>
  obtain rfl:x=c:=by simpa using h
  show List.dropWhile Mg (x::r)=_
  rw[Bex,if_neg (by simp[hd])]
theorem Bpi{s}(h:s.length=0):trL s=s:=by
 rw[Ain h];rfl
theorem Btq{p}:(trR p).length≤p.length:=by
 unfold trR
 rw[List.length_reverse]
 exact Tl (List.dropWhile_sublist _).length_le (by rw[List.length_reverse];exact Lb _)
theorem Aqd:∀{p:List UInt8},p.all Mg=true→p.dropWhile Mg=[]
 | [],_=>rfl
 | x::r,h=>by
  rw[Bck,Tj]at h
  rw[Bex,if_pos h.1];exact Aqd h.2
theorem Afs:∀{p:List UInt8},p.all Mg=false→∃c r,p.dropWhile Mg=c::r∧Mg c=false
 | [],h=>by cases h
 | x::r,h=>by
  rw[Bex]
  by_cases hx:Mg x=true
  ·rw[if_pos hx]
   exact Afs (by rw[Bck,hx,Bool.true_and]at h;exact h)
  ·rw[if_neg hx];exact⟨x,r,rfl,by simpa using hx⟩
theorem Axp{p}:(Aie p != []) = !(p.all Mg):=by
 cases h:p.all Mg with
 | true =>
  have:trR p=[]:=by
   unfold trR;rw[Aqd (by rw[List.all_reverse];exact h)];rfl
  unfold Aie;rw[this];rfl
 | false =>
  obtain⟨c,r,a,b⟩:=Afs (p:=p.reverse) (by rw[List.all_reverse];exact h)
  have e:trR p=r.reverse++[c]:=by unfold trR;rw[a,List.reverse_cons]
  have d:(trR p).all Mg=false:=by rw[e,List.all_append];simp[b]
  obtain⟨c',r',f,g⟩:=Afs d
  have:Aie p=c'::r':=f
  rw[this];rfl
def Jo(s:List UInt8):List UInt8:=if (s.take 1==[45])=true then s.drop 1 else s
theorem Bgv{s}:(Jo s).length≤s.length:=by
 unfold Jo;split
 ·rw[lZ5];omega
 ·exact Lb _
theorem Bgu{s}(h:s≠[45]):Jo s=Ha s:=by
 unfold Jo Ha Nd
 match s with
 | []=>rfl
 | [x] =>
  have hx:x≠45:=fun e=>h (by rw[e])
  simp[hx]
 | x::y::r=>by_cases hx:x=45<;>simp[hx]
theorem Ajc{s}:Gn s=(decide (1≤(Jo s).length)&&decide ((Jo s).length≤9)&&(Jo s).all Mg && !((Jo s).head?==some 48 && !(s==[48]))):=by
 by_cases h:s=[45]
 ·subst h;decide
 ·rw[Bgu h];rfl
theorem Bsv{s}(h:¬(1≤(Jo s).length∧(Jo s).length≤9)):Gn s=false:=by
 rw[Ajc]
 by_cases h1:1≤(Jo s).length
 ·rw[Jw (p:=(Jo s).length≤9) (fun a=>h ⟨h1,a⟩)];simp
 ·rw[Jw h1];simp
theorem Bsw{s}(h:(Jo s).all Mg=false):Gn s=false:=by rw[Ajc,h];simp
theorem Bsx{s c}(h:(Jo s)[0]?=some c)(hc:c=48)(hs:s≠[48]):Gn s=false:=by
 rw[Ajc]
 cases hb:Jo s with
 | nil=>rw[hb]at h;cases h
 | cons x r =>
  rw[hb]at h
  obtain rfl:x=c:=by simpa using h
  subst hc
  have:(s==[48])=false:=by simpa using hs
  rw[this];simp
theorem Bqn{s c}(h1:1≤(Jo s).length)(h9:(Jo s).length≤9)(ha:(Jo s).all Mg=true)(h:(Jo s)[0]?=some c)(hz:c≠48∨s=[48]):Gn s=true:=by
 rw[Ajc,Oe h1,Oe h9,ha]
 rcases hz with hz|hz
 ·cases hb:Jo s with
  | nil=>rw[hb]at h;cases h
  | cons x r =>
   rw[hb]at h
   obtain rfl:x=c:=by simpa using h
   simp[hz]
 ·subst hz;decide
theorem Ara{s}(h:Gn s=true):1≤(Ha s).length∧(Ha s).length≤9∧(Ha s).all Mg=true:=by
 unfold Gn at h
 simp only[Tj,decide_eq_true_eq]at h
 exact⟨h.1.1.1,h.1.1.2,h.1.2⟩
theorem Bgw{s}:s.length≤(Ha s).length+1∧(Ha s).length≤s.length:=by
 unfold Ha;split
 ·rename_i h
  rw[lZ5]
  unfold Nd at h
  simp at h;omega
 ·omega
theorem Bsu{s c}(h:Gn s=true)(hc:s[0]?=some c):(c=45∧Nd s=true)∨(48≤c.toNat∧c.toNat≤57∧Nd s=false):=by
 obtain⟨b,d,a⟩:=Ara h
 cases hm:Nd s with
 | true =>
  refine .inl ⟨?_,rfl⟩
  unfold Nd at hm
  cases s with
  | nil=>cases hc
  | cons x r =>
   obtain rfl:x=c:=by simpa using hc
   simp at hm;exact hm.2
 | false =>
  have hD:Ha s=s:=by unfold Ha;rw[hm];rfl
  rw[hD]at a
  have:=Tk.1 a c (lZ8 hc)
  unfold Mg at this
  simp at this
  exact .inr ⟨this.1,this.2,rfl⟩
theorem Bbr{c}(h:Mg c=true):48≤c.toNat∧c.toNat≤57:=by
 unfold Mg at h;simpa using h
theorem Bgs{d:List UInt8}{i:Nat}{c}(ha:d.all Mg=true)(h:d[i]?=some c):Mg c=true:=Tk.1 ha c (lZ8 h)
end
section
open Go
theorem Bvd{i c}(h:bZ3[i]?=some c):i<10∧c.toNat=48+i:=by
 have hi:i<10:=(Mq.1 h).1
 have key:(List.range 10).all (fun i=>(bZ3[i]?).all fun c=>c.toNat==48+i)=true:=by decide
 have:=Tk.1 key i (Apo.2 hi)
 rw[h]at this
 exact⟨hi,eq_of_beq this⟩
variable{mn:Bool}{X:Frame→List Frame→Ro→Own→Cy→Prop}{ρ:Ro}{σ:Own}
theorem Aur{p}(hb:p.length≤60000):CallsH (CX mn X) 183 #[.string (bs p),.string (bs ([45]:List UInt8))] ρ σ (rP ρ σ (.bool (p.take 1==[45]))):=by
 refine Bq 18 [4] Tryz.func183 rfl fun Q b i=>w_q rfl rfl fun f d=>Au bF (Dr d fun g c=>Av (.string (bs p)) (l_v (Ga Bwz rfl) (Av _ (l_v (Ga Bwz rfl) (l_v (Rw) (Av _ (Cn (decide ((p.length:Int)≥1)) (fun a=>?_) (fun a=>?_))))))))
 ·have e:=lZ2 a
  refine Me _ (gYZ a) (Me _ (gYZ a) (Aa (gYZ a) (Ga Bwz rfl) (Aa (gYZ a) (Td (p:=p) (h:=1) Bwz rfl (.inl ⟨rfl,rfl⟩) (.inr ⟨_,rfl,rfl⟩) (by omega) (by omega)) (Me _ (gYZ a) (Aa (gYZ a) (Tw) (l_v (Es a) (Au _ (l_k c (Aq (b ⟨rfl,rfl,eT (.bool ((((p.take 1).drop 0))==([45]:List UInt8))) ?_⟩))))))))))
  rfl
 have e:=lZ1 a
 refine Ap (gNZ a) (Ap (gNZ a) (Ap (gNZ a) (Ap (gNZ a) (Ap (gNZ a) (Ap (gNZ a) (l_v (En a) (Au bF (l_k c (Aq (b (rT bF ?_)))))))))))
 have hp:p=[]:=Ain (by omega)
 subst hp;rfl
theorem Bef{p}(hb:p.length≤60000):CallsH (CX mn X) 169 #[.string (bs p),.string (bs ([45]:List UInt8))] ρ σ (rP ρ σ (.string (bs (Jo p)))):=by
 refine Bq 13 [4] Tryz.func169 rfl fun Q b n=>w_q rfl rfl fun h c=>Au (.string (ByteArray.mk #[])) (Ds c fun i j d e=>Av (.string (bs p)) (Av _ (Arv (Ce (Aur (by omega)) Tryz.func183 ?_))))
 refine l_k e (Cw (fun a=>?_) (fun a=>?_))
 ·have q:1≤p.length:=by
   cases p with
   | nil=>exact absurd a (by decide)
   | cons=>simp
  refine Cr fun k f=>Av (.string (bs p)) (Av _ (l_v (Ga Bwz rfl) (l_v (Td (l:=1) Bwz rfl (.inr ⟨_,rfl,rfl⟩) (.inl ⟨rfl,rfl⟩) (by omega) (by omega)) (Au _ (l_k f (Aq (b (rT _ ?_))))))))
  unfold Jo;rw[a,Qa];rfl
 refine Al (kk d ?_)
 refine Cr fun m g=>Av (.string (bs p)) (Au _ (l_k g (Aq (b (rT _ ?_)))))
 unfold Jo;rw[a];rfl
theorem Asq{p}(hb:p.length≤60000):CallsH (CX mn X) 160 #[.string (bs p),.string (bs ([45]:List UInt8))] ρ σ (rP ρ σ (.string (bs (Jo p)))):=by
 refine Bq 8 [4] Tryz.func160 rfl fun Q a f=>w_q rfl rfl fun d b=>Au (.string (ByteArray.mk #[])) (Dr b fun e c=>Av (.string (bs p)) (Av _ (Arv (Ce (Bef (by omega)) Tryz.func169 ?_))))
 refine Au _ (l_k c (Aq (a (rT _ ?_))))
 rfl
theorem Bei  :CallsH (CX mn X) 172 #[.string (bs bZ3)] ρ σ (rP ρ σ (.tuple #[.agg ((dgT 10).map Value.bool).toArray,bT])):=by
 refine Lt (n:=21) (args:=[.string (bs bZ3)]) [.cell 2 283,.tmp 3] Tryz.func172 rfl rfl rfl rfl fun Q v Y=>w_q rfl rfl fun J x=>Arv (Ct Bmb fun u=>?_)
 refine Au bF (Ds x fun O P D E=>Au (iV 0) (l_k E (Ao (Cc (fun mm ee dd ρ' σ'=>∃(i:Nat) (a:List Bool),(10-i)=mm∧[]=dd∧ρ=ρ'∧((u,oC (a.map Value.bool).toArray 283)::σ)=σ'∧ee 0=(.string (bs bZ3))∧ee 2=pV u∧ee 4=iV i∧(i≤10)∧a=dgT i∧a.length=256∧True) (m:=_) ⟨0,List.replicate 256 false,rfl,rfl,rfl,rfl,rfl,rfl,rfl,Hz _,Bvc,Yy,trivial⟩ ?_))))
 rintro m5 V _ _ _ ⟨i,a,rfl,rfl,rfl,rfl,g,d,h,a0,k,c,_⟩
 refine Asb rfl rfl fun R T F G=>l_v (Ah h) (l_v (Ah g) (l_v (Ga Bwz (p:=bZ3) rfl) (l_v (Fk) (l_k G (Bu (t:=decide ((i:Int)<10)) rfl (fun e=>?_) (fun e=>?_))))))
 ·have I:=lZ2 e
  refine Al (kk F ?_)
  refine Ai fun U H=>Ao (Cr fun K y=>l_v (Ah g) (l_v (Ah h) ?_))
  obtain⟨b,l⟩:=Va (p:=bZ3) (i:=i) (by first|omega|(show _<10;omega))
  have Z:=b.toNat_lt
  obtain⟨W,w⟩:=Bvd l
  refine l_v (Mw (p:=bZ3) i b Bwz rfl (q:=(i:Int)) rfl rfl l) (Au _ (Ds y fun L M z B=>Av (.int .u8 (b.toNat:Int)) (l_v (Uy rfl rfl) (l_k B (Cg rfl (Jw (by omega)) (Al (kk z ?_)))))))
  refine Bf (Av (.int .u8 (b.toNat:Int)) (l_v (Cq (k':=1) b.toNat Bzb ty4.2 d (q:=(b.toNat:Int)) rfl rfl (by first|omega|(show _<10;omega)) (off':=b.toNat) (by omega)) (Ee (Zx (j:=0) (f:=Value.bool) (i:=b.toNat) (bv:=true) ty4.2 rfl rfl rfl rfl (by rw[c];omega) ?_))))
  refine l_k H (Bf (l_v (Ah h) (l_v (Dm (((i+1):Nat):Int)) (Au (iV ((i+1):Nat)) (Ac ?_)))))
  refine⟨_,?_,(i+1),(a.set b.toNat true),rfl,rfl,rfl,rfl,g,d,rfl,(by omega),(by rw[k,w];exact Bnm (by omega)),(List.length_set.trans c),trivial⟩
  omega
 have I:=lZ1 e
 refine Bx (kk D ?_)
 refine Cr fun N C=>Arv (Afr (i:=0) (f:=Value.bool) (xs:=a) ⟨_,Bzb,rfl⟩ ⟨_,Ab Byp,rfl⟩ d rfl c ?_)
 refine Ee (Acb (i:=0) (f:=Value.bool) (xs:=a) (ys:=a) ⟨_,Ab Byp,rfl⟩ d rfl (fun _=>rfl) rfl c c ?_)
 refine Au bT (l_k C (Aq (v _ _ _ _ _ [.agg (a.map Value.bool).toArray,bT] ⟨Qh ⟨_,Bzb,rfl⟩ ⟨_,Ab Byp,rfl⟩ d (i:=0) rfl (by simp[c];try rfl),rfl,trivial⟩ Cag (rT (.tuple #[.agg (a.map Value.bool).toArray,bT]) ?_))))
 rw[k,show i=10 by omega]
theorem Ako{r c}:CallsH (CX mn X) 184 #[pV r,.int .u8 (c.toNat:Int)] ρ ((r,oC (((dgT 10)).map Value.bool).toArray 283)::σ) (fun w ρ' σ'=>ρ'=ρ∧σ'=(r,oC ((dgT 10).map Value.bool).toArray 283)::σ∧w = .bool (Mg c)):=by
 have hcl:=c.toNat_lt
 refine Bq 10 [4] Tryz.func184 rfl fun Q a g=>w_q rfl rfl fun e b=>Au bF (Dr b fun f d=>Av (pV r) (Av _ (l_v (Ck rfl) (l_v (Cq (k':=1) c.toNat Bzb ty4.2 rfl rfl rfl (by omega) (by omega)) (Arv (Adu (j:=0) (i:=c.toNat) ty4.1 rfl rfl Bnk ?_))))))
 refine Au _ (l_k d (Aq (a (rT _ ?_))))
 rfl
theorem Bnf{r p}(hb:p.length≤60000):CallsH (CX mn X) 173 #[.string (bs p),pV r] ρ ((r,oC (((dgT 10)).map Value.bool).toArray 283)::σ) (fun w ρ' σ'=>ρ'=ρ∧σ'=(r,oC ((dgT 10).map Value.bool).toArray 283)::σ∧w = .string (bs (trL p))):=by
 refine Bq 16 [4] Tryz.func173 rfl fun Q k P=>w_q rfl rfl fun G x=>Au (.string (ByteArray.mk #[])) (Asa x fun J n=>Ao (Cc (fun mm ee dd ρ' σ'=>∃(s:List UInt8),(s.length)=mm∧[]=dd∧ρ=ρ'∧((r,oC (((dgT 10)).map Value.bool).toArray 283)::σ)=σ'∧ee 1=pV r∧ee 0=(.string (bs s))∧(trL s=trL p)∧(s.length≤p.length)∧True) (m:=_) ⟨p,rfl,rfl,rfl,rfl,rfl,rfl,rfl,Lb _,trivial⟩ ?_))
 rintro T O _ _ _ ⟨s,rfl,rfl,rfl,rfl,j,a,g,U,_⟩
 refine Gw fun K L B C=>l_v (Ah a) (l_v (Ga Bwz (p:=s) rfl) (l_v (Rd) (l_k C (Cw (fun c=>?_) (fun c=>?_)))))
 ·have F:=lZ2 c
  refine Al (kk B ?_)
  refine Ao (Gw fun M N D E=>l_v (Ah j) (l_v (Ah a) ?_))
  obtain⟨h,d⟩:=Va (p:=s) (i:=0) (by omega)
  have R:=h.toNat_lt
  refine l_v (Rk 0 h Bwz d) (Arv (Fj (Ako) Tryz.func184 ⟨rfl,rfl,trivial⟩ fun V W Y u=>?_))
  obtain⟨e,f,v⟩:=u
  replace e:=e.symm;replace f:=f.symm;subst e f v
  refine l_v (Iy rfl) (l_k E (Cw (fun b=>?_) (fun b=>?_)))
  ·have hdl:((s.take s.length).drop 1).length<s.length:=by simp only[lZ5,lZ6];omega
   have q:=not_eq_t b
   have hdl:((s.take s.length).drop 1).length<s.length:=by simp only[lZ5,lZ6];omega
   refine Bx (kk n ?_)
   refine Cr fun H y=>l_v (Ah a) (Au (.string (bs s)) (l_k y (Aq (k (rT (.string (bs s)) ?_)))))
   rw[←g,Blh d (by simpa using q)]
  have hdl:((s.take s.length).drop 1).length<s.length:=by simp only[lZ5,lZ6];omega
  have t:=not_eq_f b
  have hdl:((s.take s.length).drop 1).length<s.length:=by simp only[lZ5,lZ6];omega
  refine Al (kk D ?_)
  refine Bf (l_v (Ah a) (l_v (Td (l:=1) Bwz rfl (.inr ⟨_,rfl,rfl⟩) (.inl ⟨rfl,rfl⟩) (by omega) (by omega)) (Au (.string (bs ((s.take s.length).drop 1))) (Ac ?_))))
  refine⟨_,?_,((s.take s.length).drop 1),rfl,rfl,rfl,rfl,j,rfl,(by have:=Blg d (by simpa using t);rw[Qa];exact this.trans g),(by simp only[lZ5,lZ6];omega),trivial⟩
  omega
 have F:=lZ1 c
 refine Bx (kk n ?_)
 refine Cr fun I z=>l_v (Ah a) (Au (.string (bs s)) (l_k z (Aq (k (rT (.string (bs s)) ?_)))))
 rw[←g,Bpi (by omega)]
theorem Bng{r p}(hb:p.length≤60000):CallsH (CX mn X) 174 #[.string (bs p),pV r] ρ ((r,oC (((dgT 10)).map Value.bool).toArray 283)::σ) (fun w ρ' σ'=>ρ'=ρ∧σ'=(r,oC ((dgT 10).map Value.bool).toArray 283)::σ∧w = .string (bs (trR p))):=by
 refine Bq 22 [4] Tryz.func174 rfl fun Q q U=>w_q rfl rfl fun J B=>Au (.string (ByteArray.mk #[])) (Asa B fun M t=>Ao (Cc (fun mm ee dd ρ' σ'=>∃(s:List UInt8),(s.length)=mm∧[]=dd∧ρ=ρ'∧((r,oC (((dgT 10)).map Value.bool).toArray 283)::σ)=σ'∧ee 1=pV r∧ee 0=(.string (bs s))∧(trR s=trR p)∧(s.length≤p.length)∧True) (m:=_) ⟨p,rfl,rfl,rfl,rfl,rfl,rfl,rfl,Lb _,trivial⟩ ?_))
 rintro W T _ _ _ ⟨s,rfl,rfl,rfl,rfl,n,a,k,Y,_⟩
 refine Gw fun N O E F=>l_v (Ah a) (l_v (Ga Bwz rfl) (l_v (Rd) (l_k F (Cw (fun d=>?_) (fun d=>?_)))))
 ·have I:=lZ2 d
  refine Al (kk E ?_)
  refine Ao (Gw fun P R G H=>l_v (Ah n) (l_v (Ah a) (l_v (Ah a) (l_v (Ga Bwz rfl) (l_v (Ou rfl rfl (z:=(((s.length-1):Nat):Int)) (Bo (by omega) (by omega) (by omega))) ?_)))))
  obtain⟨e,f⟩:=Va (p:=s) (i:=s.length-1) (by omega)
  have V:=e.toNat_lt
  refine l_v (Rk (p:=s) (s.length-1) e Bwz f) (Arv (Fj (Ako (r:=r) (c:=e)) Tryz.func184 ⟨rfl,rfl,trivial⟩ fun Z a0 a1 x=>?_))
  obtain⟨g,j,y⟩:=x
  replace g:=g.symm;replace j:=j.symm;subst g j y
  refine l_v (Iy rfl) (l_k H (Cw (fun b=>?_) (fun b=>?_)))
  ·have hdl:((s.take (s.length-1)).drop 0).length<s.length:=by simp only[lZ5,lZ6];omega
   have u:=not_eq_t b
   have hdl:((s.take (s.length-1)).drop 0).length<s.length:=by simp only[lZ5,lZ6];omega
   refine Bx (kk t ?_)
   refine Cr fun K C=>l_v (Ah a) (Au (.string (bs s)) (l_k C (Aq (q (rT (.string (bs s)) ?_)))))
   rw[←k,Blj f (by simpa using u)]
  have hdl:((s.take (s.length-1)).drop 0).length<s.length:=by simp only[lZ5,lZ6];omega
  have v:=not_eq_f b
  have hdl:((s.take (s.length-1)).drop 0).length<s.length:=by simp only[lZ5,lZ6];omega
  refine Al (kk G ?_)
  refine Bf (l_v (Ah a) (l_v (Ah a) (l_v (Ga Bwz rfl) (l_v (Ou rfl rfl (Bo (by omega) (by omega) (by omega))) (l_v (Td (l:=0) (h:=s.length-1) Bwz rfl (.inl ⟨rfl,rfl⟩) (.inr ⟨_,rfl,rfl⟩) (by omega) (by omega)) (Au (.string (bs ((s.take (s.length-1)).drop 0))) (Ac ?_)))))))
  refine⟨_,?_,((s.take (s.length-1)).drop 0),rfl,rfl,rfl,rfl,n,rfl,((Bli f (by simpa using v)).trans k),(by simp only[lZ5,lZ6];omega),trivial⟩
  omega
 have I:=lZ1 d
 refine Bx (kk t ?_)
 refine Cr fun L D=>l_v (Ah a) (Au (.string (bs s)) (l_k D (Aq (q (rT (.string (bs s)) ?_)))))
 rw[←k,Bpj (by omega)]
theorem Brj{p}(hb:p.length≤60000):CallsH (CX mn X) 161 #[.string (bs p),.string (bs bZ3)] ρ σ (rP ρ σ (.string (bs (Aie p)))):=by
 refine Bq 43 [4] Tryz.func161 rfl fun Q g O=>w_q rfl rfl fun E t=>Au (.string (ByteArray.mk #[])) (Ds t fun H I x j=>Av (.string (bs p)) (l_v (Sp (p:=p) (q:=([]:List UInt8)) rfl rfl) (Av (.bool (p==([]:List UInt8))) (Cn (p==([]:List UInt8)) (fun a=>?_) (fun a=>?_)))))
 ·have D:=Jr a
  refine Ap (gN rfl a) (Ap (gN rfl a) (l_v (Bt rfl a (v:=bT) rfl) (l_k j (Et (Cr fun J y=>Av (.string (bs p)) (Au _ (l_k y (Aq (g (rT _ ?_))))))))))
  have hp:=eq_of_beq a
  subst hp;rfl
 have D:=Jq a
 refine l_M _ (gY rfl a) rfl (Aa (gY rfl a) (Sp (p:=bZ3) (q:=([]:List UInt8)) rfl rfl) (l_v (Bn rfl a (v:=.bool ((bZ3)==([]:List UInt8))) rfl) (l_k j (Cg rfl (by decide) (Al (kk x ?_))))))
 refine Gw fun K L z B=>Av (.string (bs bZ3)) (l_v (Ga Bwz (p:=bZ3) rfl) (l_v (Hs) (Av bF (Ap (gN rfl rfl) (Ap (gN rfl rfl) (Ap (gN rfl rfl) (l_v (Bn rfl rfl (v:=bF) rfl) (l_k B (Cg rfl rfl (Al (kk z ?_)))))))))))
 refine Gw fun M N P C=>Av (.string (bs bZ3)) (Arv (Ce Bei Tryz.func172 ?_))
 refine Av (.tuple #[.agg ((dgT 10).map Value.bool).toArray,bT]) (l_v (Bp _) (l_v (Bp bT) (Arv (Ct Bmb fun h=>?_))))
 refine Cx rfl (Acb (i:=0) (f:=Value.bool) (xs:=List.replicate 256 false) (ys:=dgT 10) ⟨_,Ab Byp,rfl⟩ rfl rfl (fun _=>rfl) rfl Bnl Yy ?_)
 refine Au bT (Dr C fun F u=>Av bT (l_k u (Et (Cr fun G w=>Av (.string (bs p)) (Arv (Fj (Bng (r:=h) (p:=p) (by omega)) Tryz.func174 ⟨rfl,rfl,trivial⟩ fun R U W k=>?_))))))
 obtain⟨b,d,m⟩:=k
 replace b:=b.symm;replace d:=d.symm;subst b d m
 refine Arv (Fj (Bnf (r:=h) (p:=trR p) (Tl Btq hb)) Tryz.func173 ⟨rfl,rfl,trivial⟩ fun T V Y l=>?_)
 obtain⟨c,e,n⟩:=l
 replace c:=c.symm;replace e:=e.symm;subst c e n
 refine Au _ (l_k w (Aj Cag (Aq (g (rT _ ?_)))))
 rfl
end
section
open Go
section
variable{P:Program}{ρ:Ro}{e:Env}{ty t t':TypeId}{x:Operand}{v:Value}{tt:TypeId}
theorem Avu{ρ' σ ms}(hT:P.underlying t=some (.interface ms)){w b}(hb:(w = .nilIface∧b=true)∨∃tt v,w = .iface tt v∧b=false){Q}(h:Q b σ):wpS P ρ' (Op.equal t w .nilIface) σ Q:=by
 show wpS P ρ' ((underlying t).bind _) σ Q
 rw[Ad]
 refine Az hT ?_
 rcases hb with⟨rfl,rfl⟩|⟨tt,v,rfl,rfl⟩<;>exact h
theorem Yn{ms w b}(hT:P.underlying t=some (.interface ms))(hb:(w = .nilIface∧b=true)∨∃tt v,w = .iface tt v∧b=false)(hx:Af e x=w):Yld P ρ e (.binOp .eql t x (.const .nilIface) t') ty (.bool b) :=
 Mt (s:=(do eqGuard .eql t x (.const .nilIface) (Af e x) .nilIface;binOp .eql t (Af e x) .nilIface)) (fun _ _ _ _=>rfl) fun ρ' σ _=>by
  rw[hx]
  have hg:eqGuard .eql t x (.const .nilIface) w .nilIface=pure ():=by
   rcases hb with⟨rfl,-⟩|⟨tt,v,rfl,-⟩
   ·unfold eqGuard;simp
   ·rfl
  rw[hg]
  have a:binOp .eql t w .nilIface=(Op.equal t w .nilIface).bind fun b=>Sem.pure (.bool b):=by
   rcases hb with⟨rfl,-⟩|⟨tt,v,rfl,-⟩<;>rfl
  show wpS P ρ' (binOp .eql t w .nilIface) σ _
  rw[a,Ad]
  exact Avu hT hb ⟨rfl,rfl⟩
theorem Ahk{ms w b}(hT:P.underlying t=some (.interface ms))(hb:(w = .nilIface∧b=true)∨∃tt v,w = .iface tt v∧b=false)(hx:Af e x=w):Yld P ρ e (.binOp .neq t x (.const .nilIface) t') ty (.bool (!b)) :=
 Mt (s:=(do eqGuard .neq t x (.const .nilIface) (Af e x) .nilIface;binOp .neq t (Af e x) .nilIface)) (fun _ _ _ _=>rfl) fun ρ' σ _=>by
  rw[hx]
  have hg:eqGuard .neq t x (.const .nilIface) w .nilIface=pure ():=by
   rcases hb with⟨rfl,-⟩|⟨tt,v,rfl,-⟩
   ·unfold eqGuard;simp
   ·rfl
  rw[hg]
  have a:binOp .neq t w .nilIface=(Op.equal t w .nilIface).bind fun b=>Sem.pure (.bool (!b)):=by
   rcases hb with⟨rfl,-⟩|⟨tt,v,rfl,-⟩<;>rfl
  show wpS P ρ' (binOp .neq t w .nilIface) σ _
  rw[a,Ad]
  exact Avu hT hb ⟨rfl,rfl⟩
end
end
section
open Go
section
variable{mn:Bool}{X:Frame→List Frame→Ro→Own→Cy→Prop}{b:FB}{n:Nat}{e:Env}{ds:List Deferred}{ρ:Ro}{σ:Own}{K:Value→List Deferred→Ro→Own→Prop}{rd:Option Nat}{dd:Option Tmp}
variable{ty:TypeId}{pos:String}{af:Array Edge}{g:Option (Nat×Bool)}{x y z:Operand}{v v2 p:Value}{t t':TypeId}
theorem Bqz{P e ρ ty t x k p z}(hx:Af e x = .int k p)(hz:k.wrap (0-p)=z):Yld P ρ e (.unOp .neg t x) ty (.int k z) :=
 Mt (s:=Op.unary .neg (Af e x)) (fun _ _ _ _=>rfl) fun ρ' σ _=>by rw[hx];subst hz;exact⟨rfl,rfl⟩
end
end
section
open Go
variable{mn:Bool}{X:Frame→List Frame→Ro→Own→Cy→Prop}{ρ:Ro}{σ:Own}
theorem Bmk{s}(hz:Gn s=true):CallsH (CX mn X) 177 #[.string (bs s)] ρ σ (fun w ρ' σ'=>Ro.le ρ ρ'∧σ'=σ∧w = .tuple #[iV (Zq s),.nilIface]):=by
 obtain⟨W,Y,b⟩:=Ara hz
 obtain⟨cj,ck⟩:=Bgw (s:=s)
 refine Bq 77 [2,3] Tryz.func177 rfl fun Q Z cg=>w_q rfl rfl fun K1 k1=>Au (iV 0) (Au _ (Dr k1 fun K2 k2=>Av (.string (bs s)) (l_v (Ga Bwz (p:=s) rfl) (Au _ (Ary rfl rfl k2 fun K3 K4 k3 k4=>Av bF (Ap (gN rfl rfl) (Ap (gN rfl rfl) (Ap (gN rfl rfl) (Ap (Jf rfl rfl rfl) (Ap (Jf rfl rfl rfl) (Ap (gN rfl rfl) (l_v (Bn rfl rfl (v:=bF) rfl) (Av bF (l_M bT (gY rfl rfl) rfl (l_M _ (gY rfl rfl) rfl (Aa (gY rfl rfl) (Da rfl rfl) (l_M _ (gY rfl rfl) rfl (l_M _ (gY rfl (Oe (by omega))) rfl (Aa (gY rfl (Oe (by omega))) (Da rfl rfl) (Aa (gY rfl rfl) (Bt rfl (Oe (by omega)) (v:=.bool (decide ((s.length:Int)<19))) rfl) (Aa (gY rfl rfl) (Bt rfl rfl (v:=.bool (decide ((s.length:Int)<19))) rfl) (l_v (Bn rfl rfl (v:=.bool (decide ((s.length:Int)<19))) rfl) (l_k k4 (Co rfl (Oe (by omega)) (Cr fun K5 k5=>Av (.string (bs s)) (Au _ (Ary rfl rfl k5 fun K6 K7 k6 k7=>Av (.string (bs s)) ?_)))))))))))))))))))))))))))
 obtain⟨e,j⟩:=Va (p:=s) (i:=0) (by omega)
 have cl:=e.toNat_lt
 have F:=Bsu hz j
 refine l_v (Mw (p:=s) 0 e Bwz rfl (q:=0) rfl rfl j) (l_v (Ek rfl rfl) (Av _ (Cn ((e.toNat:Int)==45) (fun a=>?_) (fun a=>?_))))
 ·have hm:Nd s=true:=by
   rcases F with⟨_,h⟩|⟨h,_,_⟩
   ·exact h
   ·exfalso;have:=Jr a;omega
  have hD:Ha s=((s.take s.length).drop 1):=(Arq hm).symm
  have b:=b;rw[hD]at b;have G:=W;have H:=Y;rw[hD]at G H
  have q9:=Jr a
  refine Ap (gN rfl a) (Ap (gN rfl a) (Ap (gN rfl a) (l_v (Bt rfl a (v:=bT) rfl) (l_k k7 (Et (Cr fun b8 a8=>Av (.string (bs s)) (l_v (Td (p:=s) (l:=1) (h:=s.length) Bwz rfl (.inr ⟨_,rfl,rfl⟩) (.inl ⟨rfl,rfl⟩) (by omega) (by omega)) (Au _ (Dr a8 fun ba a9=>Av (.string (bs ((s.take s.length).drop 1))) (l_v (Ga Bwz (p:=(s.take s.length).drop 1) rfl) (l_v (Da rfl rfl) (l_k a9 (Cg rfl (Jw (by omega)) (Al (kk k6 ?_)))))))))))))))
  refine Cr fun bb aa=>Au (iV 0) (Ary rfl rfl aa fun bc bd ab ac=>Av (.string (bs ((s.take s.length).drop 1))) (Arv (Amd (s:=bs ((s.take s.length).drop 1)) Bwz Bxe Bxp rfl (by rw[Oz];omega) fun a0 K c4 cq c9 a4 a6=>?_)))
  refine Alh a4 a6 (by rw[Oz];omega) fun a2 b2 k=>?_
  replace k:Val a2 (.slice (some ⟨a0,0,none⟩) (bs ((s.take s.length).drop 1)).size K) (((s.take s.length).drop 1)):=k
  have cb:=Can k
  refine l_v (Ci (el:=5) Bxe rfl k) (Av _ (l_k ac (Ao (Cc (fun mm ee dd ρ' σ'=>∃(i:Nat) (n:Nat),((((s.take s.length).drop 1)).length-i)=mm∧[]=dd∧a2=ρ'∧σ=σ'∧ee 5=(.string (bs s))∧ee 47=(.slice (some ⟨a0,0,none⟩) (bs ((s.take s.length).drop 1)).size K)∧ee 48=(iV (((((s.take s.length).drop 1)).length:Nat):Int))∧ee 6=iV n∧ee 49=iV i∧(i≤(((s.take s.length).drop 1)).length)∧(n=Aii ((((s.take s.length).drop 1)).take i))∧True) (m:=_) ⟨0,0,rfl,rfl,rfl,rfl,rfl,rfl,rfl,rfl,rfl,Hz _,rfl,trivial⟩ ?_))))
  rintro cm c6 _ _ _ ⟨i,n,rfl,rfl,rfl,rfl,O,M,N,P,B,co,I,_⟩
  have ce:n<1000000000:=by rw[I];have:=Aiu (n:=9) (d:=(((s.take s.length).drop 1)).take i) (Tk.2 fun c hc=>Tk.1 b c (List.mem_of_mem_take hc)) (by rw[lZ6];omega);omega
  refine Cr fun be ad=>l_v (Da B N) (Asa ad fun bf ae=>Bu (t:=decide ((i:Int)<(((((s.take s.length).drop 1)).length:Nat):Int))) rfl (fun x=>?_) (fun x=>?_))
  ·have b4:=lZ2 x
   refine Al (kk ae ?_)
   refine Ai fun bg af=>Ao (Cr fun bh ag=>?_)
   obtain⟨f,D⟩:=Ed (xs:=(s.take s.length).drop 1) (i:=i) (by omega)
   have ch:=Bbr (Bgs b D)
   refine Arw (Ch i Bxe ty5 M k (q:=(i:Int)) B rfl D) fun cs b6=>l_v (Aaf ty5 rfl b6) (Au _ (Dr ag fun bi ah=>Av (.int .u8 (f.toNat:Int)) (l_v (Ou rfl rfl (z:=(((f.toNat-48):Nat):Int)) ((Anq (by omega) (by omega)).trans (by omega))) (Au _ (Ary rfl rfl ah fun bj bk ai aj=>Av (.int .u8 (((f.toNat-48):Nat):Int)) (l_v (Gl rfl rfl) (l_k aj (Cg rfl (Jw (by omega)) (Al (kk ai ?_))))))))))
   refine Ag rfl rfl (l_v (Ah P) (l_v (Wq rfl rfl (z:=(((n*10):Nat):Int)) wrE) (Av _ (l_v (Acf (p:=(((f.toNat-48):Nat):Int)) (z:=(((f.toNat-48):Nat):Int)) Bxp Bxr rfl wrR) (l_v (Dm ((((n*10)+(f.toNat-48)):Nat):Int)) (Au _ (l_k af (Ag rfl rfl (l_v (Br B rfl (z:=(((i+1):Nat):Int)) wrE) (Av _ (Ac ?_)))))))))))
   refine⟨_,?_,(i+1),((n*10)+(f.toNat-48)),rfl,rfl,rfl,rfl,O,M,N,rfl,rfl,(by omega),(by rw[Akt D,I];omega),trivial⟩
   omega
  have b4:=lZ1 x
  refine Bx (kk ab ?_)
  refine Asb rfl rfl fun bl bm ak al=>l_v (Ah O) (l_v (Mw (p:=s) 0 e Bwz rfl (q:=0) rfl rfl j) (l_v (Ek rfl rfl) (l_k al (Co rfl a (Ag rfl rfl (l_v (Ah P) (l_v (Bqz (p:=(n:Int)) (z:=-(n:Int)) rfl (Bo (by omega) (by omega) (by omega))) (Au _ (Dr ak fun bn am=>Av (iV (-(n:Int))) (Au _ (Au _ (l_k am (Aq (Z ⟨b2,rfl,Eq.trans (Mp (r:=2) (r':=3) (rs:=[]) (v:=iV (-(n:Int))) (vs:=[]) ⟨rfl,rfl,trivial⟩) ?_⟩))))))))))))))
  have hi:i=(((s.take s.length).drop 1)).length:=by omega
  rw[Zq,hm,hD]
  have:=I
  rw[hi,Qa]at this
  rw[this];rfl
 have hm:Nd s=false:=by
  rcases F with⟨h,_⟩|⟨_,_,h⟩
  ·exact absurd h (Zk (n:=45) (Jq a))
  ·exact h
 have hD:Ha s=s:=by unfold Ha;rw[hm];rfl
 have cd:48≤e.toNat:=by
  rcases F with⟨h,_⟩|⟨h,_,_⟩
  ·exact absurd h (Zk (n:=45) (Jq a))
  ·exact h
 have b:=b;rw[hD]at b;have G:=W;have H:=Y;rw[hD]at G H
 have q9:=Jq a
 refine l_M _ (gY rfl a) rfl (Aa (gY rfl a) (Mw (p:=s) 0 e Bwz rfl (q:=0) rfl rfl j) (Aa (gY rfl a) (Ek rfl rfl) (l_v (Bn rfl a (v:=.bool ((e.toNat:Int)==43)) rfl) (l_k k7 (Cg rfl (beq_eq_false_iff_ne.2 (by omega)) (Al (kk k6 ?_)))))))
 refine Cr fun bo an=>Au (iV 0) (Ary rfl rfl an fun bp bq ao ap=>Av (.string (bs s)) (Arv (Amd (s:=bs s) Bwz Bxe Bxp rfl (by rw[Oz];omega) fun a1 L c5 cr ca a5 a7=>?_)))
 refine Alh a5 a7 (by rw[Oz];omega) fun a3 b3 u=>?_
 replace u:Val a3 (.slice (some ⟨a1,0,none⟩) (bs s).size L) s:=u
 have cc:=Can u
 refine l_v (Ci (el:=5) Bxe rfl u) (Av _ (l_k ap (Ao (Cc (fun mm ee dd ρ' σ'=>∃(i:Nat) (n:Nat),(s.length-i)=mm∧[]=dd∧a3=ρ'∧σ=σ'∧ee 5=(.string (bs s))∧ee 47=(.slice (some ⟨a1,0,none⟩) (bs s).size L)∧ee 48=(iV (s.length:Int))∧ee 6=iV n∧ee 49=iV i∧(i≤s.length)∧(n=Aii (s.take i))∧True) (m:=_) ⟨0,0,rfl,rfl,rfl,rfl,rfl,rfl,rfl,rfl,rfl,Hz _,rfl,trivial⟩ ?_))))
 rintro cn c7 _ _ _ ⟨i,n,rfl,rfl,rfl,rfl,U,R,T,V,C,cp,J,_⟩
 have cf:n<1000000000:=by rw[J];have:=Aiu (n:=9) (d:=s.take i) (Tk.2 fun c hc=>Tk.1 b c (List.mem_of_mem_take hc)) (by rw[lZ6];omega);omega
 refine Cr fun br aq=>l_v (Da C T) (Asa aq fun bt ar=>Bu (t:=decide ((i:Int)<(s.length:Int))) rfl (fun y=>?_) (fun y=>?_))
 ·have b5:=lZ2 y
  refine Al (kk ar ?_)
  refine Ai fun bu au=>Ao (Cr fun bv av=>?_)
  obtain⟨g,E⟩:=Ed (xs:=s) (i:=i) (by omega)
  have ci:=Bbr (Bgs b E)
  refine Arw (Ch i Bxe ty5 R u (q:=(i:Int)) C rfl E) fun ct b7=>l_v (Aaf ty5 rfl b7) (Au _ (Dr av fun bx aw=>Av (.int .u8 (g.toNat:Int)) (l_v (Ou rfl rfl (z:=(((g.toNat-48):Nat):Int)) ((Anq (by omega) (by omega)).trans (by omega))) (Au _ (Ary rfl rfl aw fun bz c0 ax ay=>Av (.int .u8 (((g.toNat-48):Nat):Int)) (l_v (Gl rfl rfl) (l_k ay (Cg rfl (Jw (by omega)) (Al (kk ax ?_))))))))))
  refine Ag rfl rfl (l_v (Ah V) (l_v (Wq rfl rfl (z:=(((n*10):Nat):Int)) wrE) (Av _ (l_v (Acf (p:=(((g.toNat-48):Nat):Int)) (z:=(((g.toNat-48):Nat):Int)) Bxp Bxr rfl wrR) (l_v (Dm ((((n*10)+(g.toNat-48)):Nat):Int)) (Au _ (l_k au (Ag rfl rfl (l_v (Br C rfl (z:=(((i+1):Nat):Int)) wrE) (Av _ (Ac ?_)))))))))))
  refine⟨_,?_,(i+1),((n*10)+(g.toNat-48)),rfl,rfl,rfl,rfl,U,R,T,rfl,rfl,(by omega),(by rw[Akt E,J];omega),trivial⟩
  omega
 have b5:=lZ1 y
 refine Bx (kk ao ?_)
 refine Asb rfl rfl fun c1 c2 az b0=>l_v (Ah U) (l_v (Mw (p:=s) 0 e Bwz rfl (q:=0) rfl rfl j) (l_v (Ek rfl rfl) (l_k b0 (Cg rfl a (Al (kk az ?_))))))
 refine Cr fun c3 b1=>l_v (Ah V) (Au _ (Au _ (l_k b1 (Aq (Z ⟨b3,rfl,Eq.trans (Mp (r:=2) (r':=3) (rs:=[]) (v:=iV n) (vs:=[]) ⟨rfl,rfl,trivial⟩) ?_⟩)))))
 have hi:i=s.length:=by omega
 rw[Zq,hm,hD]
 have:=J
 rw[hi,Qa]at this
 rw[this];rfl
theorem Bhb{s}(hz:Gn s=true):CallsH (CX mn X) 162 #[.string (bs s)] ρ σ (fun w ρ' σ'=>Ro.le ρ ρ'∧σ'=σ∧w = .tuple #[iV (Zq s),.nilIface]):=by
 refine Bq 18 [2,3] Tryz.func162 rfl fun Q c q=>w_q rfl rfl fun k e=>Au (iV 0) (Au _ (Dr e fun l f=>Av (.string (bs s)) (Arv (Fj (Bmk hz) Tryz.func177 ⟨rfl,trivial⟩ fun t u v b=>?_))))
 obtain⟨j,a,d⟩:=b
 replace a:=a.symm;subst a d
 refine Av (.tuple #[iV (Zq s),.nilIface]) (l_v (Bp _) (l_v (Bp _) (Au _ (Au _ (Ds f fun m n g h=>Av .nilIface (l_v (Ahk Byb (.inl ⟨rfl,rfl⟩) rfl) (l_k h (Dy rfl (Al (kk g ?_))))))))))
 refine Cr fun p i=>Av (iV (Zq s)) (Au _ (Au _ (l_k i (Aq (c ⟨j,rfl,Mp ⟨rfl,rfl,trivial⟩⟩)))))
end
section
open Go
theorem Ady{mn X ρ σ s}(hb:s.length≤60000):CallsH (CX mn X) 146 #[.string (bs s)] ρ σ (fun w ρ' σ'=>Ro.le ρ ρ'∧σ'=σ∧w = .tuple #[iV (De s),.bool (Gn s)]):=by
 have hbl:=Bgv (s:=s)
 refine Bq 33 [2,3] Bzh rfl fun Q e a1=>w_q rfl rfl fun T D=>Au (iV 0) (Au bF (Dr D fun K2 J=>Av (.string (bs s)) (Arv (Ce (Asq (p:=s) (by omega)) Tryz.func160 ?_))))
 refine Au _ (Ds J fun K3 K4 x j=>Av (.string (bs (Jo s))) (l_v (Ga Bwz rfl) (Arv (Ce Jl Bys ?_))))
 refine l_v (Iy rfl) (Av (.bool (!(inR ((((Jo s)).length:Nat):Int) 1 9))) (Cn (!(inR ((((Jo s)).length:Nat):Int) 1 9)) (fun c=>?_) (fun c=>?_)))
 ·have m:=not_eq_t c
  have hz:Gn s=false:=Bsv (by have:=m;unfold inR at this;simp at this;omega)
  have q6:=Xb.1 m
  refine Ap (gNZ c) (Ap (gNZ c) (Ap (gNZ c) (l_v (Es c (v:=bT)) (Av bT (Ap (gN rfl rfl) (Ap (gN rfl rfl) (Ap (gN rfl rfl) (Ap (gN rfl rfl) (Ap (Fl) (Ap (Fl) (Ap (gN rfl rfl) (l_v (Es rfl (v:=bT)) (l_k j (Et (Cr fun K7 L=>Au (iV 0) (Au bF (l_k L (Aq (e ⟨Cal,rfl,Eq.trans (Mp (r:=2) (r':=3) (rs:=[]) (v:=iV 0) (v':=bF) (vs:=[]) ⟨rfl,rfl,trivial⟩) (by rw[Agu hz,hz])⟩)))))))))))))))))))
 have t:=not_eq_f c
 have h:1≤(Jo s).length∧(Jo s).length≤9:=by have:=t;unfold inR at this;simp at this;omega
 have q8:=Fz.1 t
 refine Me (.string (bs (Jo s))) (gY rfl c) (Ae (gY rfl c) (Ce (Brj (p:=Jo s) (by omega)) Tryz.func161 ?_))
 refine Aa (gY rfl c) (Aoq (p:=Aie (Jo s)) (q:=([]:List UInt8)) rfl rfl) (l_v (En c (v:=.bool ((Aie (Jo s)) != ([]:List UInt8)))) (Av (.bool ((Aie (Jo s)) != ([]:List UInt8))) (Cn ((Aie (Jo s)) != ([]:List UInt8)) (fun a=>?_) (fun a=>?_))))
 ·have hz:Gn s=false:=Bsw (by have:=a;rw[Axp]at this;simpa using this)
  have R:=Ls a
  refine Ap (gNZ a) (Ap (gNZ a) (Ap (gNZ a) (Ap (gNZ a) (Ap (Fl) (Ap (Fl) (Ap (gNZ a) (l_v (Es a (v:=bT)) (l_k j (Et (Cr fun U E=>Au (iV 0) (Au bF (l_k E (Aq (e ⟨Cal,rfl,Eq.trans (Mp (r:=2) (r':=3) (rs:=[]) (v:=iV 0) (v':=bF) (vs:=[]) ⟨rfl,rfl,trivial⟩) (by rw[Agu hz,hz])⟩))))))))))))))
 have u:(Jo s).all Mg=true:=by have:=a;rw[Axp]at this;simpa using this
 have R:=Jh a
 refine Me (.string (bs (Jo s))) (gY rfl a) ?_
 obtain⟨f,g⟩:=Va (p:=Jo s) (i:=0) (by omega)
 have a2:=f.toNat_lt
 refine Aa (gY rfl a) (Mw (p:=Jo s) 0 f Bwz rfl (q:=0) rfl rfl g) (Aa (gY rfl a) (Hs) (Me (.bool ((f.toNat:Int)==48)) (gY rfl a) (Cn ((f.toNat:Int)==48) (fun b=>?_) (fun b=>?_))))
 ·have O:=Jr b
  refine Me (.string (bs s)) (gY rfl b) (Aa (gY rfl b) (Aoq (p:=s) (q:=([48]:List UInt8)) rfl rfl) (Aa (gY rfl a) (Es b (v:=.bool (s != ([48]:List UInt8)))) (l_v (En a (v:=.bool (s != ([48]:List UInt8)))) (l_k j (Cw (fun d=>?_) (fun d=>?_))))))
  ·have hz:Gn s=false:=Bsx g (Ub (n:=48) (Jr b)) (by simpa using d)
   have P:=Ls d
   refine Cr fun V F=>Au (iV 0) (Au bF (l_k F (Aq (e ⟨Cal,rfl,Eq.trans (Mp (r:=2) (r':=3) (rs:=[]) (v:=iV 0) (v':=bF) (vs:=[]) ⟨rfl,rfl,trivial⟩) (by rw[Agu hz,hz])⟩))))
  have hz:Gn s=true:=Bqn h.1 h.2 u g (.inr (by simpa using d))
  have P:=Jh d
  refine Al (kk x ?_)
  refine Cr fun W G=>Av (.string (bs s)) (Arv (Fj (vs:=[.string (bs s)]) (Bhb (s:=s) hz) Tryz.func162 ⟨rfl,trivial⟩ fun a3 a5 a7 y=>?_))
  obtain⟨M,k,B⟩:=y
  replace k:=k.symm;subst k B
  refine Av (.tuple #[iV (Zq s),.nilIface]) (l_v (Bp _) (l_v (Bp _) (Au _ (Au _ (Dr G fun Y H=>Av (iV (Zq s)) (Au _ (Au bT (l_k H (Aq (e ⟨M,rfl,Eq.trans (Mp (r:=2) (r':=3) (rs:=[]) (v:=iV (Zq s)) (v':=bT) (vs:=[]) ⟨rfl,rfl,trivial⟩) (by rw[Ame hz,hz])⟩))))))))))
 have hz:Gn s=true:=Bqn h.1 h.2 u g (.inl (Zk (n:=48) (Jq b)))
 have O:=Jq b
 refine Ap (gNZ b) (Ap (gNZ b) (Aa (gY rfl a) (En b (v:=bF)) (l_v (En a (v:=bF)) (l_k j (Dy rfl (Al (kk x ?_)))))))
 refine Cr fun Z I=>Av (.string (bs s)) (Arv (Fj (vs:=[.string (bs s)]) (Bhb (s:=s) hz) Tryz.func162 ⟨rfl,trivial⟩ fun a4 a6 a8 z=>?_))
 obtain⟨N,l,C⟩:=z
 replace l:=l.symm;subst l C
 refine Av (.tuple #[iV (Zq s),.nilIface]) (l_v (Bp _) (l_v (Bp _) (Au _ (Au _ (Dr I fun a0 K=>Av (iV (Zq s)) (Au _ (Au bT (l_k K (Aq (e ⟨N,rfl,Eq.trans (Mp (r:=2) (r':=3) (rs:=[]) (v:=iV (Zq s)) (v':=bT) (vs:=[]) ⟨rfl,rfl,trivial⟩) (by rw[Ame hz,hz])⟩))))))))))
end
section
open Go
/-- A loop at the beginning of a round. -/
def Bgp(C:Ctx)(b:FB)(n:Nat)(c:Code)(Q:Hu)(e:Env)(ds:List Deferred)(ρ:Ro)(σ:Own):Prop :=
 ∀tm k cs,EnvOf n tm e→GoesH C (fun fr cs' ρ' σ'=>cs'=cs∧∃ex tm' e' ds' todo,EnvOf n tm' e'∧Q ex e' ds' ρ' σ'∧Pl ex k todo∧fr=Fr b tm' ds' todo) (Fr b tm ds (.code c :: .inLoop c::k)) cs ρ σ
section
variable{C:Ctx}{b:FB}{n:Nat}{Q:Hu}{e:Env}{ds:List Deferred}{ρ:Ro}{σ:Own}{c:Code}
theorem Ym(h:Bgp C b n c Q e ds ρ σ):WpC C b n (.loop c) Q e ds ρ σ:=fun tm k cs ht =>
 Eh (fr':=Fr b tm ds (.code c :: .inLoop c::k)) (cs':=cs) (fun W=>by simp[Conc.G,stepG,stepG.exec,Fr]) (h tm k cs ht)
theorem Nu(h:WpC C b n c (Zo (fun e ds ρ σ=>Bgp C b n c Q e ds ρ σ) Q) e ds ρ σ):Bgp C b n c Q e ds ρ σ:=by
 intro tm k cs ht
 refine(h tm (.inLoop c::k) cs ht).bind ?_
 rintro _ _ ρ' σ' ⟨rfl,ex,tm',e',ds',g,a,d,f,rfl⟩
 cases ex with
 | normal =>
  cases f
  exact Eh (fr':=Fr b tm' ds' (.code c :: .inLoop c::k)) (fun W=>by simp[Conc.G,stepG,stepG.exec,Fr]) (d tm' k _ a)
 | exit id=>exact .stop ⟨rfl,.exit id,tm',e',ds',g,a,d,He (by simp) (fun _=>rfl) f,rfl⟩
 | ret=>exact .stop ⟨rfl,.ret,tm',e',ds',g,a,d,He (by simp) (fun _=>rfl) f,rfl⟩
end
def m2(p:List UInt8)(j:Nat):Bool:=p[j]?==some 46&&p[j+1]?==some 46
def Mi(p:List UInt8):Int:=match Cl (p.length-1) (m2 p) with|some i=>(i:Int)|none=>-1
theorem Ats{p j}:m2 p j=true↔p[j]?=some 46∧p[j+1]?=some 46:=by unfold m2;simp
theorem Bvo{p j c}(h:p[j]?=some c)(hc:c≠46):m2 p j=false:=by unfold m2;rw[h];simp[hc]
theorem Bwn{p j c}(h:p[j+1]?=some c)(hc:c≠46):m2 p j=false:=by unfold m2;rw[h];simp[hc]
theorem Bju{p j}(h:p.length≤j+1):m2 p j=false:=by unfold m2;rw[Yd (by omega:p.length≤j+1)];simp
theorem Abm{p i}(h:∀j,j<i→m2 p j=false)(hm:m2 p i=true):Mi p=(i:Int):=by
 have hi:i<p.length-1:=by
  rcases Tc i (p.length-1) with hl|hl
  ·exact hl
  ·rw[Bju (by omega)]at hm;cases hm
 unfold Mi;rw[Fh h hi hm]
theorem Xz{p}(h:∀j,j<p.length-1→m2 p j=false):Mi p = -1:=by unfold Mi;rw[Ep h]
theorem Abo{p}:(∃i:Nat,Mi p=(i:Int)∧i+1<p.length∧m2 p i=true∧∀j,j<i→m2 p j=false)∨(Mi p = -1∧∀j,m2 p j=false):=by
 unfold Mi
 rcases Ft (n:=p.length-1) (p:=m2 p) with⟨i,hi,hp,hj,he⟩|⟨a,he⟩
 ·exact .inl ⟨i,by rw[he],by omega,hp,hj⟩
 ·refine .inr ⟨by rw[he],fun j=>?_⟩
  rcases Tc j (p.length-1) with hl|hl
  ·exact a j hl
  ·exact Bju (by omega)
theorem Atk{p}:-1≤Mi p∧Mi p≤p.length:=by
 rcases Abo (p:=p) with⟨i,a,b,_⟩|⟨a,_⟩<;>omega
theorem Atr{p k j}:m2 (p.drop k) j=m2 p (k+j):=by unfold m2;rw[Yz,Yz,Nat.add_assoc]
/-- From a place on,where there is none before it. -/
theorem Abl{p k}(h:∀j,j<k→m2 p j=false):(∃i:Nat,Mi (p.drop k)=(i:Int)∧Mi p=(i:Int)+(k:Int))∨(Mi (p.drop k) = -1∧Mi p = -1):=by
 rcases Abo (p:=p.drop k) with⟨i,a,b,c,d⟩|⟨a,b⟩
 ·refine .inl ⟨i,a,?_⟩
  rw[Atr]at c
  rw[Abm (i:=k+i) (fun j hj=>?_) c]
  ·omega
  ·rcases Tc j k with hl|hl
   ·exact h j hl
   ·have:=d (j-k) (by omega)
    rw[Atr,show k+(j-k)=j by omega]at this;exact this
 ·refine .inr ⟨a,Xz fun j _=>?_⟩
  rcases Tc j k with hl|hl
  ·exact h j hl
  ·have:=b (j-k)
   rw[Atr,show k+(j-k)=j by omega]at this;exact this
theorem sl2{p:List UInt8}{i}(h:p[i]?=some 46)(h':p[i+1]?=some 46):(p.take (i+2)).drop i=[46,46]:=by
 have a:=Mv h
 have b:=Mv h'
 have hl:(p.take i).length=i:=by rw[lZ6];have:=(Mq.1 h).1;omega
 rw[b,a,lZ9,Bjj (by omega),Azt (by omega)]
 rfl
theorem Bgy{a b}:(bs a==bs b)=decide (a=b):=by
 show (a.toArray==b.toArray)=_
 by_cases h:a=b
 ·subst h;simp
 ·simp[h]
def gno(n:Nat):Nat:=n
theorem Bib{p}:((List.range ((bs p).size+1-(bs [46,46]).size)).find? fun i=>(bs p).extract i (i+(bs [46,46]).size)==bs [46,46])=Cl (p.length-1) (m2 p):=by
 have a:(bs ([46,46]:List UInt8)).size=2:=rfl
 rw[a,Oz,show p.length+1-2=p.length-1 by omega]
 refine Aab fun i hi=>?_
 rw[Acs]
 cases hm:m2 p i with
 | true =>
  rw[Ats]at hm
  rw[sl2 hm.1 hm.2,Bgy];rfl
 | false =>
  rw[Bgy]
  refine Jw fun hl=>?_
  have b:p[i]?=some 46:=by
   have:=congrArg (·[0]?) hl
   simp only[Yz,Agn]at this
   rw[if_pos (by omega)]at this
   exact this
  have c:p[i+1]?=some 46:=by
   have:=congrArg (·[1]?) hl
   simp only[Yz,Agn]at this
   rw[if_pos (by omega)]at this
   exact this
  rw[Ats.2 ⟨b,c⟩]at hm;cases hm
theorem Avm{ρ σ p z t fz}(hz:ρ 4=some (.cells #[.int .i64 z] t fz))(h2:2≤z)(hb:p.length≤60000):wpS Tryz.prog ρ (Extern.BytealgIndex.index #[.string (bs p),.string (bs ([46,46]:List UInt8))]) σ (fun w σ'=>w = .int .i64 (Mi p)∧σ'=σ):=by
 unfold Extern.BytealgIndex.index
 show wpS Tryz.prog ρ ((Extern.Bytes.bytesOf (.string (bs p))).bind _) σ _
 rw[Ad]
 show wpS Tryz.prog ρ ((Extern.Bytes.bytesOf (.string (bs [46,46]))).bind _) σ _
 rw[Ad]
 have a:∀{Q:Int→Own→Prop},Q z σ→wpS Tryz.prog ρ Extern.BytealgIndex.maxLen σ Q:=fun {Q} hq=>by
  have hgl:Tryz.prog.globals.findIdx? (·.name == "internal/bytealg.MaxLen")=some (gno 4):=by kernel_rfl
  unfold Extern.BytealgIndex.maxLen
  show wpS Tryz.prog ρ ((globalAddr "internal/bytealg.MaxLen").bind _) σ Q
  rw[Ad]
  unfold globalAddr
  show wpS Tryz.prog ρ (match Tryz.prog.globals.findIdx? (·.name == "internal/bytealg.MaxLen") with|some g=>(pure (⟨g,0,none⟩:Addr))|none=>_) σ _
  rw[hgl]
  show wpS Tryz.prog ρ ((load ⟨gno 4,0,none⟩).bind _) σ Q
  rw[Ad]
  exact⟨rfl,rfl,_,_,.inl hz,rfl,hq⟩
 show wpS Tryz.prog ρ (Extern.BytealgIndex.maxLen.bind _) σ _
 rw[Ad]
 refine a ?_
 refine Aba (c:=(decide ((bs ([46,46]:List UInt8)).size<2)||decide (((bs ([46,46]:List UInt8)).size:Int)>z))=true) ?_ ?_
 ·rw[show (bs ([46,46]:List UInt8)).size=2 from rfl,Jw (by omega),Jw (by omega)];simp
 refine Aba (c:=(bs p).size≥2^32-15) (by rw[Oz];omega) ?_
 show wpS Tryz.prog ρ (match (List.range ((bs p).size+1-(bs [46,46]).size)).find? fun i=>(bs p).extract i (i+(bs [46,46]).size)==bs [46,46] with|some i=>pure (goInt i)|none=>pure (goInt (-1))) σ _
 rw[Bib]
 unfold Mi
 cases Cl (p.length-1) (m2 p)<;>exact⟨rfl,rfl⟩
def hw(a b:Nat):Int:=((a:Int)*16777619+(b:Int))%4294967296
theorem Blu(z:Int):IntKind.u32.wrap z=z%4294967296:=by
 show z%_=_
 simp only[IntKind.bits];rfl
theorem Alo{a b:Nat}:IntKind.u32.wrap (IntKind.u32.wrap (IntKind.u32.wrap (IntKind.u32.wrap (0*16777619)+(a:Int))*16777619)+(b:Int))=hw a b:=by
 simp only[Blu,hw];omega
theorem Atj{a b c:Nat}:IntKind.u32.wrap (IntKind.u32.wrap (IntKind.u32.wrap (hw a b*16777619)+(c:Int))-IntKind.u32.wrap (IntKind.u32.wrap (16777619*16777619)*(a:Int)))=hw b c:=by
 simp only[Blu,hw]
 rw[show (16777619:Int)*16777619%4294967296=637696617 by decide]
 omega
theorem Bqi{p j a b}(ha:p[j]?=some a)(hb:p[j+1]?=some b)(h:¬hw a.toNat b.toNat=hw 46 46):m2 p j=false:=by
 cases hm:m2 p j with
 | false=>rfl
 | true =>
  rw[Ats]at hm
  rw[ha,hb]at hm
  obtain⟨c,d⟩:=hm
  cases c;cases d
  exact absurd rfl h
theorem Bvv{p j}(h:(((p.take (j+2)).drop j)==([46,46]:List UInt8))=false):m2 p j=false:=by
 cases hm:m2 p j with
 | false=>rfl
 | true =>
  rw[Ats]at hm
  rw[sl2 hm.1 hm.2]at h;cases h
theorem Bwq{p j}(h:(((p.take (j+2)).drop j)==([46,46]:List UInt8))=true):m2 p j=true:=by
 have hl:=eq_of_beq h
 have a:=congrArg (·[0]?) hl
 have b:=congrArg (·[1]?) hl
 simp only[Yz,Agn]at a b
 rw[if_pos (by omega)]at a b
 exact Ats.2 ⟨a,b⟩
theorem Bqu{p j}:(((p.take (j+2)).drop j)==([46,46]:List UInt8))=m2 p j:=by
 cases h:(((p.take (j+2)).drop j)==([46,46]:List UInt8)) with
 | true=>exact(Bwq h).symm
 | false=>exact(Bvv h).symm
theorem Atq{p:Nat→Prop}{i}(h:∀j,j<i→p j)(hi:p i):∀j,j<i+1→p j:=fun j hj=>by
 rcases Tc j i with hl|hl
 ·exact h j hl
 ·rw[show j=i by omega];exact hi
theorem Bob{c p}(h:decide (Ve c p<0)=true):∀x∈p,x≠c:=by
 replace h:=lZ2 h
 rcases Vy (c:=c) (p:=p) with⟨i,b,_⟩|⟨_,a⟩
 ·omega
 ·exact a
theorem Biq{c p}(h:decide (Ve c p<0)=false):∃m:Nat,Ve c p=(m:Int)∧m<p.length∧p[m]?=some c∧∀j,j<m→p[j]?≠some c:=by
 replace h:=lZ1 h
 rcases Vy (c:=c) (p:=p) with h1|⟨h1,_⟩
 ·exact h1
 ·omega
theorem But{a b:Int}(h:(a != b)=false):a=b:=by simpa using h
theorem Bus{a b:Int}(h:(a != b)=true):¬a=b:=by simpa using h
theorem Bax{p:List UInt8}{i t j}(h:i+1+j<t):((p.take t).drop (i+1))[j]?=p[i+1+j]?:=by
 rw[Yz,Agn,if_pos h]
theorem Bsg{p i m t c}(h:∀j,j<i→m2 p j=false)(hc:p[i]?=some c)(hne:c≠46)(hm:((p.take t).drop (i+1))[m]?=some 46)(hj:∀j,j<m→((p.take t).drop (i+1))[j]?≠some 46):p[i+(m+1)]?=some 46∧∀j,j<i+(m+1)→m2 p j=false:=by
 have hlt:=(Mq.1 hm).1
 rw[lZ5,lZ6]at hlt
 rw[Bax (by omega)]at hm
 refine⟨by rw[show i+(m+1)=i+1+m by omega];exact hm,fun j hj'=>?_⟩
 rcases Tc j i with hl|hl
 ·exact h j hl
 ·rcases Tc i j with hl2|hl2
  ·have a:=hj (j-(i+1)) (by omega)
   rw[Bax (by omega),show i+1+(j-(i+1))=j by omega]at a
   unfold m2
   cases hx:p[j]?==some 46 with
   | false=>rfl
   | true=>exact absurd (by simpa using hx) a
  ·rw[show j=i by omega];exact Bvo hc hne
theorem Bid{p i t c}(h:∀j,j<i→m2 p j=false)(hc:p[i]?=some c)(hne:c≠46)(hno:∀x∈(p.take t).drop (i+1),x≠46)(ht:p.length-1≤t:=by omega):∀j,j<p.length-1→m2 p j=false:=fun j hj=>by
 rcases Tc j i with hl|hl
 ·exact h j hl
 ·rcases Tc i j with hl2|hl2
  ·unfold m2
   cases hx:p[j]?==some 46 with
   | false=>rfl
   | true =>
    have hx':p[j]?=some 46:=by simpa using hx
    refine absurd rfl (hno 46 (lZ8 (i:=j-(i+1)) ?_))
    rw[Bax (by omega),show i+1+(j-(i+1))=j by omega];exact hx'
  ·rw[show j=i by omega];exact Bvo hc hne
theorem Btl{p}(h:p.length≤2)(hne:([46,46]:List UInt8)≠p)(j:Nat):m2 p j=false:=by
 cases hm:m2 p j with
 | false=>rfl
 | true =>
  rw[Ats]at hm
  have c:=(Mq.1 hm.2).1
  have hj:j=0:=by omega
  subst hj
  match p,h,hm with
  | [a,b],_,hm =>
   simp at hm
   exact absurd (by rw[hm.1,hm.2]) hne
theorem Bur{a b:List UInt8}(h:(a==b)=false):a≠b:=by simpa using h
theorem Aiw{i:Nat}{c}(h:([46,46]:List UInt8)[i]?=some c):c=46:=by
 have hi:i<2:=(Mq.1 h).1
 have:i=0∨i=1:=by omega
 rcases this with rfl|rfl<;>simpa using h.symm
end
section
open Go
variable{mn:Bool}{X:Frame→List Frame→Ro→Own→Cy→Prop}{ρ:Ro}{σ:Own}
theorem Bmy  :CallsH (CX mn X) 201 #[.string (bs ([46,46]:List UInt8))] ρ σ (rP ρ σ (.tuple #[.int .u32 (hw 46 46),.int .u32 (IntKind.u32.wrap (16777619*16777619))])):=by
 refine Bq 39 [2,3] Tryz.func201 rfl fun Q f ad=>w_q rfl rfl fun P g=>Au (.int .u32 0) (Au _ (Dr g fun K2 w=>Au (.int .u32 0) (Ds w fun K3 K4 I K=>Au (iV 0) (l_k K (Ao (Ym (Nu (Gw fun K5 K6 L M=>Av (iV 0) (Av (.string (bs ([46,46]:List UInt8))) (l_v (Ga Bwz rfl) (l_v (Fk) (l_k M (Et (Al (kk L ?_)))))))))))))))
 refine Ai fun K7 N=>Ao (Bf (Av (.int .u32 0) (l_v (Abc rfl) (Av (.string (bs ([46,46]:List UInt8))) (Av (iV 0) ?_)))))
 obtain⟨c,e⟩:=Va (p:=([46,46]:List UInt8)) (i:=0) (by decide)
 have af:=c.toNat_lt
 obtain rfl:c=46:=Aiw e
 refine l_v (Rk 0 (46:UInt8) Bwz e) (l_v (Acf (p:=(((46:UInt8).toNat:Nat):Int)) (z:=(((46:UInt8).toNat:Nat):Int)) Bxp Bxy rfl (Lu (by omega) (by omega))) (l_v (Br rfl rfl rfl) (Au _ (l_k N (Bf (Av (iV 0) (l_v (Dm 1) (Au _ (Ac ?_)))))))))
 refine Nu (Gw fun K9 R O h=>Av (iV 1) (Av (.string (bs ([46,46]:List UInt8))) (l_v (Ga Bwz rfl) (l_v (Fk) (l_k h (Et (Al (kk O ?_))))))))
 refine Ai fun T j=>Ao (Bf (Av (.int .u32 (IntKind.u32.wrap ((IntKind.u32.wrap (0*16777619))+(((46:UInt8).toNat:Nat):Int)))) (l_v (Abc rfl) (Av (.string (bs ([46,46]:List UInt8))) (Av (iV 1) ?_)))))
 obtain⟨a,d⟩:=Va (p:=([46,46]:List UInt8)) (i:=1) (by decide)
 have ae:=a.toNat_lt
 obtain rfl:a=46:=Aiw d
 refine l_v (Rk 1 (46:UInt8) Bwz d) (l_v (Acf (p:=(((46:UInt8).toNat:Nat):Int)) (z:=(((46:UInt8).toNat:Nat):Int)) Bxp Bxy rfl (Lu (by omega) (by omega))) (l_v (Br rfl rfl rfl) (Au _ (l_k j (Bf (Av (iV 1) (l_v (Dm 2) (Au _ (Ac ?_)))))))))
 refine Nu (Gw fun U V ag k=>Av (iV 2) (Av (.string (bs ([46,46]:List UInt8))) (l_v (Ga Bwz rfl) (l_v (Fk) (l_k k (Dy rfl (Bx (kk I ?_))))))))
 refine Cr fun W l=>Au (.int .u32 1) (Au _ (Ds l fun Y Z m n=>Av (.string (bs ([46,46]:List UInt8))) (l_v (Ga Bwz rfl) (Au _ (l_k n (Ao (Ym (Nu (Gw fun a0 a1 t u=>Av (iV 2) (l_v (Rd) (l_k u (Et (Al (kk t ?_))))))))))))))
 refine Ai fun a2 x=>Ao (Gw fun a3 a4 y B=>Av (iV 2) (l_v (Qs (p:=2) (q:=1) rfl rfl (by omega)) (l_v (Rf) (l_k B (Dy rfl (Al (kk y ?_)))))))
 refine Bf (Av (.int .u32 16777619) (Av (.int .u32 16777619) (l_v (Abc rfl) (Au _ (l_k x (Bf (Av (iV 2) (l_v (Lc (p:=2) (q:=1) rfl rfl rfl (by omega)) (Au _ (Ac ?_))))))))))
 refine Nu (Gw fun a5 a6 C D=>Av (iV 1) (l_v (Rd) (l_k D (Et (Al (kk C ?_))))))
 refine Ai fun a7 E=>Ao (Gw fun a8 a9 F G=>Av (iV 1) (l_v (Qs (p:=1) (q:=1) rfl rfl (by omega)) (l_v (Rf) (l_k G (Et (Bf (Av (.int .u32 1) (Av (.int .u32 (IntKind.u32.wrap (16777619*16777619))) (l_v (Abc rfl) (Au _ (l_k F (Bf (Av (.int .u32 (IntKind.u32.wrap (16777619*16777619))) (Av (.int .u32 (IntKind.u32.wrap (16777619*16777619))) (l_v (Abc rfl) (Au _ (l_k E (Bf (Av (iV 1) (l_v (Lc (p:=1) (q:=1) rfl rfl rfl (by omega)) (Au _ (Ac ?_))))))))))))))))))))))
 refine Nu (Gw fun aa ab ah H=>Av (iV 0) (l_v (Rd) (l_k H (Dy rfl (Bx (kk m ?_))))))
 refine Cr fun ac J=>Av (.int .u32 (IntKind.u32.wrap ((IntKind.u32.wrap ((IntKind.u32.wrap ((IntKind.u32.wrap (0*16777619))+(((46:UInt8).toNat:Nat):Int)))*16777619))+(((46:UInt8).toNat:Nat):Int)))) (Av (.int .u32 (IntKind.u32.wrap (1*(IntKind.u32.wrap (16777619*16777619))))) (Au _ (Au _ (l_k J (Aq (f ⟨rfl,rfl,Eq.trans (b:=.tuple #[.int .u32 (IntKind.u32.wrap ((IntKind.u32.wrap ((IntKind.u32.wrap ((IntKind.u32.wrap (0*16777619))+(((46:UInt8).toNat:Nat):Int)))*16777619))+(((46:UInt8).toNat:Nat):Int))),.int .u32 (IntKind.u32.wrap (1*(IntKind.u32.wrap (16777619*16777619))))]) (Mp (r:=2) (v:=.int .u32 (IntKind.u32.wrap ((IntKind.u32.wrap ((IntKind.u32.wrap ((IntKind.u32.wrap (0*16777619))+(((46:UInt8).toNat:Nat):Int)))*16777619))+(((46:UInt8).toNat:Nat):Int)))) ⟨rfl,rfl,trivial⟩) ?_⟩))))))
 rfl
theorem Bhf{p}(hl:2≤p.length)(hb:p.length≤60000):CallsH (CX mn X) 195 #[.string (bs p),.string (bs ([46,46]:List UInt8))] ρ σ (rP ρ σ (iV (Mi p))):=by
 refine Bq 81 [4] Tryz.func195 rfl fun Q I bm=>w_q rfl rfl fun K1 k1=>Au (iV 0) (Dr k1 fun K2 k2=>Av (.string (bs ([46,46]:List UInt8))) (Arv (Ce Bmy Tryz.func201 ?_)))
 refine Av (.tuple #[.int .u32 (hw 46 46),.int .u32 (IntKind.u32.wrap (16777619*16777619))]) (l_v (Bp (.int .u32 (hw 46 46))) (l_v (Bp (.int .u32 (IntKind.u32.wrap (16777619*16777619)))) (Au _ (Au _ (Dr k2 fun K3 k3=>Av (.string (bs ([46,46]:List UInt8))) (l_v (Ga Bwz (p:=([46,46]:List UInt8)) rfl) (Au _ (Dr k3 fun K4 k4=>Au (.int .u32 0) (Ds k4 fun K5 K6 k5 k6=>Au (iV 0) (l_k k6 (Ao (Ym (Nu (Gw fun K7 K8 k7 k8=>Av (iV 0) (Av (iV 2) (l_v (Fk) (l_k k8 (Et (Al (kk k7 ?_))))))))))))))))))))
 refine Ai fun K9 k9=>Ao (Bf (Av (.int .u32 0) (l_v (Wq rfl rfl (z:=IntKind.u32.wrap (0*16777619)) rfl) (Av (.string (bs p)) (Av (iV 0) ?_)))))
 obtain⟨e,F⟩:=Va (p:=p) (i:=0) (by first|omega|(simp only[lZ6];omega))
 have bn:=e.toNat_lt
 refine l_v (Mw (p:=p) 0 e Bwz rfl (q:=0) rfl rfl F) (l_v (Acf (p:=(e.toNat:Int)) (z:=(e.toNat:Int)) Bxp Bxy rfl (Lu (by omega) (by omega))) (l_v (Br rfl rfl (z:=IntKind.u32.wrap ((IntKind.u32.wrap (0*16777619))+(e.toNat:Int))) rfl) (Au _ (l_k k9 (Bf (Av (iV 0) (l_v (Dm 1) (Au _ (Ac ?_)))))))))
 refine Nu (Gw fun b0 b1 ab ac=>Av (iV 1) (Av (iV 2) (l_v (Fk) (l_k ac (Et (Al (kk ab ?_)))))))
 refine Ai fun b2 ad=>Ao (Bf (Av (.int .u32 (IntKind.u32.wrap ((IntKind.u32.wrap (0*16777619))+(e.toNat:Int)))) (l_v (Wq rfl rfl (z:=IntKind.u32.wrap ((IntKind.u32.wrap ((IntKind.u32.wrap (0*16777619))+(e.toNat:Int)))*16777619)) rfl) (Av (.string (bs p)) (Av (iV 1) ?_)))))
 obtain⟨k,G⟩:=Va (p:=p) (i:=1) (by first|omega|(simp only[lZ6];omega))
 have bo:=k.toNat_lt
 refine l_v (Mw (p:=p) 1 k Bwz rfl (q:=1) rfl rfl G) (l_v (Acf (p:=(k.toNat:Int)) (z:=(k.toNat:Int)) Bxp Bxy rfl (Lu (by omega) (by omega))) (l_v (Br rfl rfl (z:=IntKind.u32.wrap ((IntKind.u32.wrap ((IntKind.u32.wrap ((IntKind.u32.wrap (0*16777619))+(e.toNat:Int)))*16777619))+(k.toNat:Int))) rfl) (Au _ (l_k ad (Bf (Av (iV 1) (l_v (Dm 2) (Au _ (Ac ?_)))))))))
 refine Nu (Gw fun b3 b4 br ae=>Av (iV 2) (Av (iV 2) (l_v (Fk) (l_k ae (Cg rfl rfl (Bx (kk k5 ?_)))))))
 refine Ai fun b5 af=>Ai fun U ag=>?_
 have R:∀  (ee:Env),(ee 0=(.string (bs p)))∧(ee 1=(.string (bs ([46,46]:List UInt8))))∧(ee 5=(.int .u32 (hw 46 46)))∧(ee 6=(.int .u32 (IntKind.u32.wrap (16777619*16777619))))∧(ee 7=iV 2)∧(ee 8=(.int .u32 (hw e.toNat k.toNat)))∧(ee 39=(.bool (m2 p 0)))∧True→U ee [] ρ σ:=by
  rintro bh ⟨W,Y,a0,a1,L,a2,Z,_⟩
  apply ag
  refine Bu (t:=m2 p 0) Z (fun x=>?_) (fun x=>?_)
  ·have g:=x
   refine Cr fun b6 ah=>Au (iV 0) (l_k ah (Aq (I (rT (iV 0) ?_))))
   exact congrArg (Value.int .i64) (Abm (i:=0) (fun j hj=>absurd hj (by omega)) g).symm
  have g:=x
  refine Al (kk af ?_)
  refine Gw fun b7 b8 ai aj=>l_v (Ah (v:=iV 2) L) (Au _ (l_k aj (Ao (Cc (fun mm ee dd ρ' σ'=>∃(i:Nat) (a:UInt8) (b:UInt8),(p.length-i)=mm∧[]=dd∧ρ=ρ'∧σ=σ'∧ee 0=(.string (bs p))∧ee 1=(.string (bs ([46,46]:List UInt8)))∧ee 5=(.int .u32 (hw 46 46))∧ee 6=(.int .u32 (IntKind.u32.wrap (16777619*16777619)))∧ee 7=iV 2∧ee 8=(.int .u32 (hw a.toNat b.toNat))∧ee 10=iV i∧(2≤i∧i≤p.length)∧(p[i-2]?=some a∧p[i-1]?=some b)∧(∀j,j<i-1→m2 p j=false)∧True) (m:=_) ⟨2,e,k,rfl,rfl,rfl,rfl,W,Y,a0,a1,L,a2,rfl,⟨Lb _,hl⟩,⟨F,G⟩,Atq (i:=0) (fun j hj=>absurd hj (by omega)) g,trivial⟩ ?_))))
  rintro bt bi _ _ _ ⟨i,a,b,rfl,rfl,rfl,rfl,n,C,D,E,w,a3,u,av,aw,J,_⟩
  obtain⟨bk,bl⟩:=av
  obtain⟨O,P⟩:=aw
  refine Gw fun b9 ba ak al=>l_v (Ah (v:=iV i) u) (l_v (Ah (v:=.string (bs p)) n) (l_v (Ga Bwz (p:=p) rfl) (l_v (Fk) (l_k al (Bu (t:=decide ((i:Int)<(p.length:Int))) rfl (fun y=>?_) (fun y=>?_))))))
  ·have ax:=lZ2 y
   refine Al (kk ak ?_)
   refine Ao (Cr fun bb am=>l_v (Ah (v:=.int .u32 (hw a.toNat b.toNat)) a3) (l_v (Wq rfl rfl (z:=IntKind.u32.wrap ((hw a.toNat b.toNat)*16777619)) rfl) (Au _ (Dr am fun bc an=>Av (.int .u32 (IntKind.u32.wrap ((hw a.toNat b.toNat)*16777619))) (l_v (Ah (v:=.string (bs p)) n) (l_v (Ah (v:=iV i) u) ?_))))))
   obtain⟨f,H⟩:=Va (p:=p) (i:=i) (by first|omega|(simp only[lZ6];omega))
   have bp:=f.toNat_lt
   refine l_v (Mw (p:=p) i f Bwz rfl (q:=(i:Int)) rfl rfl H) (l_v (Acf (p:=(f.toNat:Int)) (z:=(f.toNat:Int)) Bxp Bxy rfl (Lu (by omega) (by omega))) (l_v (Br rfl rfl (z:=IntKind.u32.wrap ((IntKind.u32.wrap ((hw a.toNat b.toNat)*16777619))+(f.toNat:Int))) rfl) (Au _ (Dr an fun bd ao=>Av (.int .u32 (IntKind.u32.wrap ((IntKind.u32.wrap ((hw a.toNat b.toNat)*16777619))+(f.toNat:Int)))) (l_v (Ah (v:=.int .u32 (IntKind.u32.wrap (16777619*16777619))) E) (l_v (Ah n) (l_v (Ah u) (l_v (Ah w) (l_v (Ou rfl rfl (z:=(((i-2):Nat):Int)) (Bo (by omega) (by omega) (by omega))) ?_)))))))))
   obtain⟨K,aa⟩:=Va (p:=p) (i:=i-2) (by first|omega|(simp only[lZ6];omega))
   have bq:=K.toNat_lt
   obtain rfl:a=K:=Option.some.inj (O.symm.trans aa)
   refine l_v (Mw (p:=p) (i-2) a Bwz rfl (q:=(((i-2):Nat):Int)) rfl rfl O) (l_v (Acf (p:=(a.toNat:Int)) (z:=(a.toNat:Int)) Bxp Bxy rfl (Lu (by omega) (by omega))) (l_v (Wq rfl rfl (z:=IntKind.u32.wrap ((IntKind.u32.wrap (16777619*16777619))*(a.toNat:Int))) rfl) (l_v (Ou rfl rfl (z:=IntKind.u32.wrap ((IntKind.u32.wrap ((IntKind.u32.wrap ((hw a.toNat b.toNat)*16777619))+(f.toNat:Int)))-(IntKind.u32.wrap ((IntKind.u32.wrap (16777619*16777619))*(a.toNat:Int))))) rfl) (Au _ (Dr ao fun be ap=>l_v (Ah u) (l_v (Dm (((i+1):Nat):Int)) (Au _ (Asa ap fun V aq=>?_))))))))
   have T:∀  (ee:Env),(ee 0=(.string (bs p)))∧(ee 1=(.string (bs ([46,46]:List UInt8))))∧(ee 5=(.int .u32 (hw 46 46)))∧(ee 6=(.int .u32 (IntKind.u32.wrap (16777619*16777619))))∧(ee 7=iV 2)∧(ee 8=(.int .u32 (hw b.toNat f.toNat)))∧(ee 10=(iV ((i+1):Nat)))∧(ee 77=(.bool (m2 p (i-1))))∧True→V ee [] ρ σ:=by
    rintro bj ⟨a4,a5,a6,a7,N,a9,M,a8,_⟩
    apply aq
    refine Bu (t:=m2 p (i-1)) a8 (fun B=>?_) (fun B=>?_)
    ·have g:=B
     refine Cr fun bf ar=>l_v (Ah M) (l_v (Ah N) (l_v (Ou rfl rfl (z:=((((i+1)-2):Nat):Int)) (Bo (by omega) (by omega) (by omega))) (Au _ (l_k ar (Aq (I ⟨rfl,rfl,eT (iV ((((i+1)-2):Nat):Int)) ?_⟩))))))
     rw[Abm (i:=i-1) J g,show i+1-2=i-1 by omega]
    have g:=B
    refine Al ⟨_,?_,i+1,b,f,rfl,rfl,rfl,rfl,a4,a5,a6,a7,N,a9,M,⟨by omega,by omega⟩,⟨by rw[show i+1-2=i-1 by omega];exact P,by rw[show i+1-1=i by omega];exact H⟩,fun j hj=>Atq (i:=i-1) J g j (by omega),trivial⟩
    omega
   refine Bf (l_v (Ah (congrArg (Value.int .u32) Atj)) (l_v (Ah D) (l_v (Hs) (Av (.bool ((hw b.toNat f.toNat)==(hw 46 46))) (Cn ((hw b.toNat f.toNat)==(hw 46 46)) (fun c=>?_) (fun c=>?_))))))
   ·have ay:=Jr c
    refine Aa (gY rfl c) (Ah n) (l_M _ (gY rfl c) rfl (Aa (gY rfl c) (Ah w) (Aa (gY rfl c) (Ou rfl rfl (z:=((((i+1)-2):Nat):Int)) (Bo (by omega) (by omega) (by omega))) (l_M _ (gY rfl c) rfl (Aa (gY rfl c) (Td (p:=p) (l:=(i+1)-2) (h:=i+1) Bwz rfl (.inr ⟨_,rfl,rfl⟩) (.inr ⟨_,rfl,rfl⟩) (by first|omega|(simp only[lZ6];omega)) (by first|omega|(simp only[lZ6];omega))) (Aa (gY rfl c) (Ah C) (Aa (gY rfl c) (Sp (p:=(p.take (i+1)).drop ((i+1)-2)) (q:=([46,46]:List UInt8)) rfl rfl) (l_v (Bt rfl c (v:=.bool ((((p.take (i+1)).drop ((i+1)-2)))==([46,46]:List UInt8))) rfl) (Ac ?_)))))))))
    refine T _ ⟨n,C,D,E,w,congrArg (Value.int .u32) Atj,rfl,(rfl.trans (congrArg Value.bool (by have:=Bqu (p:=p) (j:=i-1);rw[show i-1+2=i+1 by omega]at this;exact this))),trivial⟩
   have g:m2 p (i-1)=false:=Bqi (a:=b) P (by rw[show i-1+1=i by omega];exact H) (Jq c)
   have ay:=Jq c
   refine Ap (gNZ c) (Ap (gNZ c) (Ap (gNZ c) (Ap (gNZ c) (Ap (gNZ c) (Ap (gNZ c) (Ap (gNZ c) (Ap (gNZ c) (l_v (Bn rfl c (v:=bF) rfl) (Ac ?_)))))))))
   refine T _ ⟨n,C,D,E,w,congrArg (Value.int .u32) Atj,rfl,rfl.trans (congrArg Value.bool g.symm),trivial⟩
  have ax:=lZ1 y
  refine Bx (kk ai ?_)
  refine Cr fun bg au=>Au (iV (-1)) (l_k au (Aq (I (rT (iV (-1)) ?_))))
  rw[Xz fun j hj=>J j (by omega)]
 refine Bf (l_v (Ah (congrArg (Value.int .u32) Alo)) (Av (.int .u32 (hw 46 46)) (l_v (Hs) (Av (.bool ((hw e.toNat k.toNat)==(hw 46 46))) (Cn ((hw e.toNat k.toNat)==(hw 46 46)) (fun d=>?_) (fun d=>?_))))))
 ·have az:=Jr d
  refine l_M _ (gY rfl d) rfl (l_M _ (gY rfl d) rfl (Aa (gY rfl d) (Td (p:=p) (l:=0) (h:=2) Bwz rfl (.inl ⟨rfl,rfl⟩) (.inr ⟨_,rfl,rfl⟩) (by first|omega|(simp only[lZ6];omega)) (by first|omega|(simp only[lZ6];omega))) (l_M _ (gY rfl d) rfl (Aa (gY rfl d) (Sp (p:=(p.take 2).drop 0) (q:=([46,46]:List UInt8)) rfl rfl) (l_v (Bt rfl d (v:=.bool ((((p.take 2).drop 0))==([46,46]:List UInt8))) rfl) (Ac ?_))))))
  refine R _ ⟨rfl,rfl,rfl,rfl,rfl,congrArg (Value.int .u32) Alo,rfl.trans (congrArg Value.bool (Bqu (p:=p) (j:=0))),trivial⟩
 have g:m2 p 0=false:=Bqi F G (Jq d)
 have az:=Jq d
 refine Ap (gNZ d) (Ap (gNZ d) (Ap (gNZ d) (Ap (gNZ d) (Ap (gNZ d) (l_v (Bn rfl d (v:=bF) rfl) (Ac ?_))))))
 refine R _ ⟨rfl,rfl,rfl,rfl,rfl,congrArg (Value.int .u32) Alo,rfl.trans (congrArg Value.bool g.symm),trivial⟩
theorem Bdw{n:Nat}(hn:n≤60000):CallsH (CX mn X) 194 #[iV n] ρ σ (rP ρ σ (iV ((((n+16)/8):Nat):Int))):=by
 refine Bq 6 [2] Tryz.func194 rfl fun Q a f=>w_q rfl rfl fun d b=>Au (iV 0) (Dr b fun e c=>Av (iV n) (l_v (Dm _) (l_v (Aor rfl rfl (by omega) (z:=((((n+16)/8):Nat):Int)) wrR) (Au _ (l_k c (Aq (a ⟨rfl,rfl,eT _ ?_⟩)))))))
 rfl
theorem Bmr{p}(hg:GlobE ρ)(hb:p.length≤60000):CallsH (CX mn X) 182 #[.string (bs p),.string (bs ([46,46]:List UInt8))] ρ σ (rP ρ σ (iV (Mi p))):=by
 obtain⟨z,dx,de,B,hzr⟩:=hg.mlen
 refine Bq 143 [4] Bzs rfl fun Q f dr=>w_q rfl rfl fun K1 k1=>Au (iV 0) (Dr k1 fun K2 k2=>Av (.string (bs ([46,46]:List UInt8))) (l_v (Ga Bwz (p:=([46,46]:List UInt8)) rfl) (Au (iV 2) (Asa k2 fun K3 k3=>?_))))
 have ah:∀  (ee:Env),(ee 0=(.string (bs p)))∧(ee 1=(.string (bs ([46,46]:List UInt8))))∧(ee 5=iV 2)∧(2<p.length)∧True→K3 ee [] ρ σ:=by
  rintro e3 ⟨a7,a2,a8,bt,_⟩
  have hlp:=bt
  apply k3
  refine Cr fun K4 k4=>l_v (Ah (v:=.string (bs ([46,46]:List UInt8))) a2) ?_
  obtain⟨c5,a9⟩:=Va (p:=([46,46]:List UInt8)) (i:=0) (by first|decide|omega|(simp only[lZ5,lZ6]at *;omega))
  have du:=c5.toNat_lt
  obtain rfl:c5=46:=Aiw a9
  refine l_v (Mw (p:=([46,46]:List UInt8)) 0 (46:UInt8) Bwz rfl (q:=0) rfl rfl a9) (Au (.int .u8 (((46:UInt8).toNat:Nat):Int)) (Dr k4 fun K6 k6=>l_v (Ah (v:=.string (bs ([46,46]:List UInt8))) a2) ?_))
  obtain⟨c7,aa⟩:=Va (p:=([46,46]:List UInt8)) (i:=1) (by first|decide|omega|(simp only[lZ5,lZ6]at *;omega))
  have dv:=c7.toNat_lt
  obtain rfl:c7=46:=Aiw aa
  refine l_v (Mw (p:=([46,46]:List UInt8)) 1 (46:UInt8) Bwz rfl (q:=1) rfl rfl aa) (Au (.int .u8 (((46:UInt8).toNat:Nat):Int)) (Dr k6 fun K8 k8=>Au (iV 0) (Dr k8 fun K9 k9=>l_v (Ah (v:=.string (bs p)) a7) (l_v (Ga Bwz (p:=p) rfl) (l_v (Ah (v:=iV 2) a8) (l_v (Ou rfl rfl (z:=(((p.length-2):Nat):Int)) (Bo (by omega) (by omega) (by omega))) (l_v (Dm ((((p.length-2)+1):Nat):Int)) (Au (iV ((((p.length-2)+1):Nat):Int)) (Dr k9 fun cc au=>Au (iV 0) (Asa au fun cd av=>Ao (Cc (fun mm ee dd ρ' σ'=>∃(i:Nat) (k:Nat),(p.length-i)=mm∧[]=dd∧ρ=ρ'∧σ=σ'∧ee 0=(.string (bs p))∧ee 1=(.string (bs ([46,46]:List UInt8)))∧ee 5=iV 2∧ee 6=(.int .u8 (((46:UInt8).toNat:Nat):Int))∧ee 7=(.int .u8 (((46:UInt8).toNat:Nat):Int))∧ee 9=(iV ((((p.length-2)+1):Nat):Int))∧ee 8=iV i∧ee 10=iV k∧(i+1≤p.length∧k≤i)∧(∀j,j<i→m2 p j=false)∧True) (m:=_) ⟨0,0,rfl,rfl,rfl,rfl,a7,a2,a8,rfl,rfl,rfl,rfl,rfl,⟨by omega,Lb _⟩,fun j hj=>absurd hj (by omega),trivial⟩ ?_)))))))))))
  rintro dw db _ _ _ ⟨i,k,rfl,rfl,rfl,rfl,K,a3,a5,L,a6,M,H,a4,bq,R,_⟩
  obtain⟨dj,dq⟩:=bq
  refine Gw fun ce cf aw ax=>l_v (Ah H) (l_v (Ah M) (l_v (Fk) (l_k ax (Cw (t:=decide ((i:Int)<((((p.length-2)+1):Nat):Int))) (fun T=>?_) (fun T=>?_)))))
  ·have bu:=lZ2 T
   refine Al (kk aw ?_)
   refine Ao (Ai fun ak ay=>?_)
   have ag:∀(j:Nat) (ee:Env),(ee 0=(.string (bs p)))∧(ee 1=(.string (bs ([46,46]:List UInt8))))∧(ee 5=iV 2)∧(ee 6=(.int .u8 (((46:UInt8).toNat:Nat):Int)))∧(ee 7=(.int .u8 (((46:UInt8).toNat:Nat):Int)))∧(ee 9=(iV ((((p.length-2)+1):Nat):Int)))∧(ee 10=iV k)∧(ee 8=iV j)∧(i≤j∧j+1<p.length)∧(p[j]?=some 46)∧(∀t,t<j→m2 p t=false)∧True→ak ee [] ρ σ:=by
    rintro j dc ⟨w,y,x,a1,N,O,al,I,br,ai,aj,_⟩
    obtain⟨dn,dp⟩:=br
    apply ay
    refine Gw fun cg ch az ac=>l_v (Ah w) (l_v (Ah I) (l_v (Dm (((j+1):Nat):Int)) ?_))
    obtain⟨F,P⟩:=Va (p:=p) (i:=j+1) (by first|decide|omega|(simp only[lZ5,lZ6]at *;omega))
    have ds:=F.toNat_lt
    refine l_v (Mw (p:=p) (j+1) F Bwz rfl (q:=(((j+1):Nat):Int)) rfl rfl P) (l_v (Ah N) (l_v (Hs) (Av (.bool ((F.toNat:Int)==(((46:UInt8).toNat:Nat):Int))) (Cn ((F.toNat:Int)==(((46:UInt8).toNat:Nat):Int)) (fun a=>?_) (fun a=>?_)))))
    ·have ab:F=46:=Ub (n:=46) (Jr a)
     have hM:m2 p j=true:=Ats.2 ⟨ai,by rw[P,ab]⟩
     have bv:=Jr a
     refine Aa (gY rfl a) (Ah w) (Aa (gY rfl a) (Ah I) (Aa (gY rfl a) (Ah I) (Aa (gY rfl a) (Ah x) (Aa (gY rfl a) (Dm (((j+2):Nat):Int)) (Aa (gY rfl a) (Td (p:=p) (l:=j) (h:=j+2) Bwz rfl (.inr ⟨_,rfl,rfl⟩) (.inr ⟨_,rfl,rfl⟩) (by first|decide|omega|(simp only[lZ5,lZ6]at *;omega)) (by first|decide|omega|(simp only[lZ5,lZ6]at *;omega))) (Aa (gY rfl a) (Ah y) (Aa (gY rfl a) (Sp (p:=(p.take (j+2)).drop j) (q:=([46,46]:List UInt8)) rfl rfl) (l_v (Bt rfl a (v:=.bool ((((p.take (j+2)).drop j))==([46,46]:List UInt8))) rfl) (l_k ac (Co rfl (by rw[show j+2=j+1+1 by omega]at *;rw[sl2 ai (by rw[P,ab])]<;>rfl) (Cr fun ci b0=>l_v (Ah I) (Au (iV j) (l_k b0 (Aq (f (rT (iV j) ?_))))))))))))))))
     rw[Abm aj hM]
    have hM:m2 p j=false:=Bwn P (Zk (n:=46) (Jq a))
    have hQ:=Atq (p:=fun j=>m2 p j=false) aj hM
    have bv:=Jq a
    refine Ap (gN rfl a) (Ap (gN rfl a) (Ap (gN rfl a) (Ap (gN rfl a) (Ap (gN rfl a) (Ap (gN rfl a) (Ap (gN rfl a) (Ap (gN rfl a) (l_v (Bn rfl a (v:=bF) rfl) (l_k ac (Dy rfl (Al (kk az ?_))))))))))))
    refine Cr fun cj b1=>l_v (Ah I) (l_v (Dm (((j+1):Nat):Int)) (Au (iV ((j+1):Nat)) (Dr b1 fun ck b2=>l_v (Ah al) (l_v (Dm (((k+1):Nat):Int)) (Au (iV ((k+1):Nat)) (Dr b2 fun cl ad=>l_v (Ah x) (l_v (Aae (v:=iV z) ty3.1 rfl B rfl) (l_v (Uz rfl rfl) (Av (.bool (decide (2≤z))) (Cn (decide (2≤z)) (fun b=>?_) (fun b=>?_)))))))))))
    ·have bx:=lZ2 b
     refine Me _ (gY rfl b) (Me _ (gY rfl b) (Ae (gY rfl b) (Ce (Bdw (n:=j+1) (by omega)) Tryz.func194 ?_)))
     refine Aa (gY rfl b) (Gl rfl rfl) (l_v (Bt rfl b (v:=.bool (decide ((((k+1):Nat):Int)>(((((j+1)+16)/8):Nat):Int)))) rfl) (l_k ad (Cw (t:=decide ((((k+1):Nat):Int)>(((((j+1)+16)/8):Nat):Int))) (fun U=>?_) (fun U=>?_))))
     ·have bz:=lZ2 U
      refine Cr fun cm b3=>l_v (Ah w) (Av (iV ((j+1):Nat)) (l_v (Td (p:=p) (l:=j+1) (h:=p.length) Bwz rfl (.inr ⟨_,rfl,rfl⟩) (.inl ⟨rfl,rfl⟩) (by first|decide|omega|(simp only[lZ5,lZ6]at *;omega)) (by first|decide|omega|(simp only[lZ5,lZ6]at *;omega))) (l_v (Ah y) ?_)))
      have df:=Atk (p:=(p.take p.length).drop (j+1));have dk:(((p.take p.length).drop (j+1))).length≤60000:=by first|omega|(simp only[lZ5,lZ6];omega)
      refine Alw rfl Tryz.func193 rfl rfl rfl rfl (Awq rfl rfl) (Avm (p:=(p.take p.length).drop (j+1)) B (by omega) (by first|omega|(simp only[lZ5,lZ6];omega))) (Au (iV (Mi ((p.take p.length).drop (j+1)))) (Ds b3 fun cn co b4 b5=>Av (iV (Mi ((p.take p.length).drop (j+1)))) (l_v (Rw) (l_k b5 (Cw (t:=decide ((Mi ((p.take p.length).drop (j+1)))≥0)) (fun V=>?_) (fun V=>?_))))))
      ·have hdr:(∃q:Nat,Mi ((p.take p.length).drop (j+1))=(q:Int)∧Mi p=(q:Int)+(((j+1):Nat):Int))∨(Mi ((p.take p.length).drop (j+1)) = -1∧Mi p = -1):=by rw[Qa];exact Abl hQ
       have c0:=lZ2 V
       refine Cr fun cp b6=>Av (iV (Mi ((p.take p.length).drop (j+1)))) (Av (iV ((j+1):Nat)) (l_v (Br rfl rfl (z:=(Mi ((p.take p.length).drop (j+1)))+(((j+1):Nat):Int)) (Bo (by rfl) (by omega) (by omega))) (Au (iV ((Mi ((p.take p.length).drop (j+1)))+(((j+1):Nat):Int))) (l_k b6 (Aq (f ⟨rfl,rfl,eT (iV ((Mi ((p.take p.length).drop (j+1)))+(((j+1):Nat):Int))) ?_⟩))))))
       rcases hdr with⟨q,u,g⟩|⟨u,g⟩
       ·exact congrArg (Value.int .i64) (by omega)
       ·exfalso;omega
      have hdr:(∃q:Nat,Mi ((p.take p.length).drop (j+1))=(q:Int)∧Mi p=(q:Int)+(((j+1):Nat):Int))∨(Mi ((p.take p.length).drop (j+1)) = -1∧Mi p = -1):=by rw[Qa];exact Abl hQ
      have c0:=lZ1 V
      refine Al (kk b4 ?_)
      refine Cr fun cq b7=>Au (iV (-1)) (l_k b7 (Aq (f (rT (iV (-1)) ?_))))
      rcases hdr with⟨q,u,g⟩|⟨u,g⟩
      ·exfalso;omega
      ·rw[g]
     have bz:=lZ1 U
     refine Cr fun cr b8=>l_v (Ah x) (l_v (Aae (v:=iV z) ty3.1 rfl B rfl) (l_v (Gl rfl rfl) (Av (.bool (decide (2>z))) (Ap (gN rfl (Jw (by omega))) (Ap (gN rfl (Jw (by omega))) (Ap (gN rfl (Jw (by omega))) (Ap (gN rfl (Jw (by omega))) (Ap (gN rfl (Jw (by omega))) (l_v (Bn rfl (Jw (by omega)) (v:=bF) rfl) (Av bF (Ap (gN rfl rfl) (Ap (gN rfl rfl) (Ap (gN rfl rfl) (l_v (Bn rfl rfl (v:=bF) rfl) (l_k b8 (Dy rfl (Al ⟨_,?_,j+1,k+1,rfl,rfl,rfl,rfl,w,y,x,a1,N,O,rfl,rfl,⟨by omega,by omega⟩,hQ,trivial⟩)))))))))))))))))
     omega
    have bx:=lZ1 b
    refine Ap (gN rfl b) (Ap (gN rfl b) (Ap (gN rfl b) (Ap (gN rfl b) (l_v (Bn rfl b (v:=bF) rfl) (l_k ad (Dy rfl (Cr fun cs ae=>l_v (Ah x) (l_v (Aae (v:=iV z) ty3.1 rfl B rfl) (l_v (Gl rfl rfl) (Av (.bool (decide (2>z))) (Me _ (gY rfl (Oe (by omega))) (Me _ (gY rfl (Oe (by omega))) (Aa (gY rfl (Oe (by omega))) (Lc (p:=j+1) (q:=4) rfl rfl rfl (by omega)) (Aa (gY rfl (Oe (by omega))) (Dm (((4+((j+1)>>>4)):Nat):Int)) (Aa (gY rfl (Oe (by omega))) (Rw) (l_v (Bt rfl (Oe (by omega)) (v:=.bool (decide ((((k+1):Nat):Int)≥(((4+((j+1)>>>4)):Nat):Int)))) rfl) (Av (.bool (decide ((((k+1):Nat):Int)≥(((4+((j+1)>>>4)):Nat):Int)))) (Cn (decide ((((k+1):Nat):Int)≥(((4+((j+1)>>>4)):Nat):Int))) (fun d=>?_) (fun d=>?_)))))))))))))))))))
    ·have c1:=lZ2 d
     refine Me _ (gY rfl d) (Aa (gY rfl d) (Ah O) (Aa (gY rfl d) (Fk) (l_v (Bt rfl d (v:=.bool (decide ((((j+1):Nat):Int)<((((p.length-2)+1):Nat):Int)))) rfl) (l_k ae (Cw (t:=decide ((((j+1):Nat):Int)<((((p.length-2)+1):Nat):Int))) (fun W=>?_) (fun W=>?_))))))
     ·have c2:=lZ2 W
      refine Cr fun ct b9=>l_v (Ah w) (Av (iV ((j+1):Nat)) (l_v (Td (p:=p) (l:=j+1) (h:=p.length) Bwz rfl (.inr ⟨_,rfl,rfl⟩) (.inl ⟨rfl,rfl⟩) (by first|decide|omega|(simp only[lZ5,lZ6]at *;omega)) (by first|decide|omega|(simp only[lZ5,lZ6]at *;omega))) (l_v (Ah y) ?_)))
      have dh:=Atk (p:=(p.take p.length).drop (j+1));have dl:(((p.take p.length).drop (j+1))).length≤60000:=by first|omega|(simp only[lZ5,lZ6];omega)
      refine Arv (Ce (Bhf (p:=(p.take p.length).drop (j+1)) (by first|omega|(simp only[lZ5,lZ6];omega)) (by first|omega|(simp only[lZ5,lZ6];omega))) Tryz.func195 ?_)
      refine Au (iV (Mi ((p.take p.length).drop (j+1)))) (Ds b9 fun cu cv ba bb=>Av (iV (Mi ((p.take p.length).drop (j+1)))) (l_v (Fk) (l_k bb (Cw (t:=decide ((Mi ((p.take p.length).drop (j+1)))<0)) (fun Y=>?_) (fun Y=>?_)))))
      ·have hdr:(∃q:Nat,Mi ((p.take p.length).drop (j+1))=(q:Int)∧Mi p=(q:Int)+(((j+1):Nat):Int))∨(Mi ((p.take p.length).drop (j+1)) = -1∧Mi p = -1):=by rw[Qa];exact Abl hQ
       have c3:=lZ2 Y
       refine Cr fun cw bc=>Au (iV (-1)) (l_k bc (Aq (f (rT (iV (-1)) ?_))))
       rcases hdr with⟨q,u,g⟩|⟨u,g⟩
       ·exfalso;omega
       ·rw[g]
      have hdr:(∃q:Nat,Mi ((p.take p.length).drop (j+1))=(q:Int)∧Mi p=(q:Int)+(((j+1):Nat):Int))∨(Mi ((p.take p.length).drop (j+1)) = -1∧Mi p = -1):=by rw[Qa];exact Abl hQ
      have c3:=lZ1 Y
      refine Al (kk ba ?_)
      refine Cr fun cx bd=>Av (iV ((j+1):Nat)) (Av (iV (Mi ((p.take p.length).drop (j+1)))) (l_v (Dm ((((j+1):Nat):Int)+(Mi ((p.take p.length).drop (j+1))))) (Au (iV ((((j+1):Nat):Int)+(Mi ((p.take p.length).drop (j+1))))) (l_k bd (Aq (f ⟨rfl,rfl,eT (iV ((((j+1):Nat):Int)+(Mi ((p.take p.length).drop (j+1))))) ?_⟩))))))
      rcases hdr with⟨q,u,g⟩|⟨u,g⟩
      ·exact congrArg (Value.int .i64) (by omega)
      ·exfalso;omega
     have c2:=lZ1 W
     refine Al ⟨_,?_,j+1,k+1,rfl,rfl,rfl,rfl,w,y,x,a1,N,O,rfl,rfl,⟨by omega,by omega⟩,hQ,trivial⟩
     omega
    have c1:=lZ1 d
    refine Ap (gN rfl d) (Ap (gN rfl d) (Ap (gN rfl d) (l_v (Bn rfl d (v:=bF) rfl) (l_k ae (Dy rfl (Al ⟨_,?_,j+1,k+1,rfl,rfl,rfl,rfl,w,y,x,a1,N,O,rfl,rfl,⟨by omega,by omega⟩,hQ,trivial⟩))))))
    omega
   refine Cr fun cy be=>l_v (Ah K) (l_v (Ah H) ?_)
   obtain⟨G,J⟩:=Va (p:=p) (i:=i) (by first|decide|omega|(simp only[lZ5,lZ6]at *;omega))
   have dt:=G.toNat_lt
   refine l_v (Mw (p:=p) i G Bwz rfl (q:=(i:Int)) rfl rfl J) (l_v (Ah L) (l_v (Dg rfl rfl) (l_k be (Cw (t:=(G.toNat:Int) != (((46:UInt8).toNat:Nat):Int)) (fun C=>?_) (fun C=>?_)))))
   ·have hne:G≠46:=Zk (n:=46) (Bus C)
    have c4:=Ls C
    refine Cr fun cz bf=>l_v (Ah K) (l_v (Ah H) (l_v (Dm (((i+1):Nat):Int)) (l_v (Ah M) (l_v (Td (p:=p) (l:=i+1) (h:=(p.length-2)+1) Bwz rfl (.inr ⟨_,rfl,rfl⟩) (.inr ⟨_,rfl,rfl⟩) (by first|decide|omega|(simp only[lZ5,lZ6]at *;omega)) (by first|decide|omega|(simp only[lZ5,lZ6]at *;omega))) (l_v (Ah L) (Arv (Ce (Act (p:=(p.take ((p.length-2)+1)).drop (i+1)) (c:=(46:UInt8))) Bzq ?_)))))))
    refine Au (iV (Ve (46:UInt8) ((p.take ((p.length-2)+1)).drop (i+1)))) (Ds bf fun d0 d1 bg bh=>Av (iV (Ve (46:UInt8) ((p.take ((p.length-2)+1)).drop (i+1)))) (l_v (Fk) (l_k bh (Cw (t:=decide ((Ve (46:UInt8) ((p.take ((p.length-2)+1)).drop (i+1)))<0)) (fun D=>?_) (fun D=>?_)))))
    ·have hno:=Bob (c:=46) D
     have c6:=lZ2 D
     refine Cr fun d2 bi=>Au (iV (-1)) (l_k bi (Aq (f (rT (iV (-1)) ?_))))
     rw[Xz (Bid R J hne hno)]
    obtain⟨m,an,ao,ap,aq⟩:=Biq (c:=46) D
    obtain⟨hfa,hfb⟩:=Bsg R J hne ap aq
    have hml:i+(m+1)+1<p.length:=by simp only[lZ5,lZ6]at ao;omega
    have c6:=lZ1 D
    refine Al (kk bg ?_)
    refine Bf (l_v (Ah H) (l_v (Ah (congrArg (Value.int .i64) an)) (l_v (Dm (((m+1):Nat):Int)) (l_v (Dm (((i+(m+1)):Nat):Int)) (Au (iV (((i+(m+1)):Nat):Int)) (Ac ?_))))))
    refine ag (i+(m+1)) _ ⟨K,a3,a5,L,a6,M,a4,rfl,⟨by omega,by omega⟩,hfa,hfb,trivial⟩
   have am:G=46:=Ub (n:=46) (But C)
   rw[am]at J
   have c4:=Jh C
   refine Al (ag i _ ⟨K,a3,a5,L,a6,M,a4,H,⟨by omega,by omega⟩,J,R,trivial⟩)
  have bu:=lZ1 T
  refine Bx (kk av ?_)
  refine Cr fun d3 bj=>Au (iV (-1)) (l_k bj (Aq (f (rT (iV (-1)) ?_))))
  rw[Xz fun j hj=>R j (by omega)]
 refine Ao (Cr fun d4 bk=>Av (iV 2) (l_v (Hs) (Av bF (Me _ (gY rfl rfl) (Me _ (gY rfl rfl) (Aa (gY rfl rfl) (Sp (p:=([46,46]:List UInt8)) (q:=p) rfl rfl) (l_v (Bn rfl rfl (v:=.bool ((([46,46]:List UInt8))==p)) rfl) (Au (.bool ((([46,46]:List UInt8))==p)) (l_k bk (Cw (t:=(([46,46]:List UInt8))==p) (fun E=>?_) (fun E=>?_)))))))))))
 ·have ar:=eq_of_beq E
  have c8:=Jr E
  refine Cr fun d5 bl=>Au (iV 0) (l_k bl (Aq (f (rT (iV 0) ?_))))
  rw[←ar];rfl
 have c8:=Jq E
 refine Cr fun d6 bm=>Av (iV 2) (l_v (Hs) (Au bF (l_k bm (Dy rfl (Cr fun d7 bn=>Av (iV 2) (Av (.string (bs p)) (l_v (Ga Bwz (p:=p) rfl) (l_v (Rw) (Au (.bool (decide (2≥(p.length:Int)))) (l_k bn (Cw (t:=decide (2≥(p.length:Int))) (fun Z=>?_) (fun Z=>?_))))))))))))
 ·have c9:=lZ2 Z
  refine Cr fun d8 bo=>Au (iV (-1)) (l_k bo (Aq (f (rT (iV (-1)) ?_))))
  rw[Xz fun j hj=>Btl (by omega) (Bur E) j]
 have c9:=lZ1 Z
 refine Cr fun d9 af=>Av (iV 2) (l_v (Aae (v:=iV z) ty3.1 rfl B rfl) (l_v (Uz rfl rfl) (Av (.bool (decide (2≤z))) (Cn (decide (2≤z)) (fun e=>?_) (fun e=>?_)))))
 ·have ca:=lZ2 e
  refine Me _ (gY rfl e) (Aa (gY rfl e) (Ga Bwz (p:=p) rfl) (Aa (gY rfl e) (Uz rfl rfl) (l_v (Bt rfl e (v:=.bool (decide ((p.length:Int)≤64))) rfl) (Au (.bool (decide ((p.length:Int)≤64))) (l_k af (Cw (t:=decide ((p.length:Int)≤64)) (fun a0=>?_) (fun a0=>?_)))))))
  ·have cb:=lZ2 a0
   refine Cr fun da bp=>Av (.string (bs p)) (Av (.string (bs ([46,46]:List UInt8))) ?_)
   have di:=Atk (p:=p);have dm:(p).length≤60000:=by first|omega|(simp only[lZ5,lZ6];omega)
   refine Alw rfl Tryz.func193 rfl rfl rfl rfl (Awq rfl rfl) (Avm (p:=p) B (by omega) (by first|omega|(simp only[lZ5,lZ6];omega))) (Au (iV (Mi p)) (l_k bp (Aq (f (rT (iV (Mi p)) ?_)))))
   rfl
  have cb:=lZ1 a0
  refine Al (ah _ ⟨rfl,rfl,rfl,(by omega),trivial⟩)
 have ca:=lZ1 e
 refine Ap (gN rfl e) (Ap (gN rfl e) (Ap (gN rfl e) (l_v (Bn rfl e (v:=bF) rfl) (Au bF (l_k af (Dy rfl (Al (ah _ ⟨rfl,rfl,rfl,(by omega),trivial⟩))))))))
end
section
open Go
structure Rd8 where
 l:Lab
 m:Market
deriving DecidableEq
instance:Dat Rd8:=.iso fun x=>(x.l,x.m)
theorem Rd8.f_l:Fld Rd8 Lab 0 Rd8.l:=⟨fun ρ cs x=>(Fld.fst:Fld ((Lab)×(Market)) Lab 0 _).at_ ρ cs (x.l,x.m)⟩
theorem Rd8.f_m:Fld Rd8 Market 3 Rd8.m:=⟨fun ρ cs x=>((.snd Fld.self):Fld ((Lab)×(Market)) Market 3 _).at_ ρ cs (x.l,x.m)⟩
theorem Rd8.shut{ρ}{x:Rd8}{c0 c1 c2 c3 c4 c5}(h0:Val ρ c0 x.l.kinds)(h1:I64 x.l.most)(h2:Val ρ c1 x.l.tests)(h3:Val ρ c2 x.m.houses)(h4:Val ρ c3 x.m.marks)(h5:Val ρ c4 x.m.fields)(h6:Val ρ c5 x.m.sales):Val ρ (.agg #[c0,.int .i64 x.l.most,c1,c2,c3,c4,c5]) x:=⟨[c0,.int .i64 x.l.most,c1,c2,c3,c4,c5],⟨[c0]++([.int .i64 x.l.most]++[c1]),[c2]++([c3]++([c4]++[c5])),rfl,⟨[c0],[.int .i64 x.l.most]++[c1],rfl,⟨c0,rfl,Cs.1 h0⟩,⟨[.int .i64 x.l.most],[c1],rfl,⟨rfl,h1⟩,⟨c1,rfl,Cs.1 h2⟩⟩⟩,⟨[c2],[c3]++([c4]++[c5]),rfl,⟨c2,rfl,Cs.1 h3⟩,⟨[c3],[c4]++[c5],rfl,⟨c3,rfl,Cs.1 h4⟩,⟨[c4],[c5],rfl,⟨c4,rfl,Cs.1 h5⟩,⟨c5,rfl,Cs.1 h6⟩⟩⟩⟩⟩,rfl⟩
structure Rdg where
 l:Lab
 m:Market
 last:Int
deriving DecidableEq
instance:Dat Rdg:=.iso fun x=>(x.l,(x.m,x.last))
theorem Rdg.f_l:Fld Rdg Lab 0 Rdg.l:=⟨fun ρ cs x=>(Fld.fst:Fld ((Lab)×(Market)×(Int)) Lab 0 _).at_ ρ cs (x.l,(x.m,x.last))⟩
theorem Rdg.f_m:Fld Rdg Market 3 Rdg.m:=⟨fun ρ cs x=>((.snd Fld.fst):Fld ((Lab)×(Market)×(Int)) Market 3 _).at_ ρ cs (x.l,(x.m,x.last))⟩
theorem Rdg.shut{ρ}{x:Rdg}{c0 c1 c2 c3 c4 c5}(h0:Val ρ c0 x.l.kinds)(h1:I64 x.l.most)(h2:Val ρ c1 x.l.tests)(h3:Val ρ c2 x.m.houses)(h4:Val ρ c3 x.m.marks)(h5:Val ρ c4 x.m.fields)(h6:Val ρ c5 x.m.sales)(h7:I64 x.last):Val ρ (.agg #[c0,.int .i64 x.l.most,c1,c2,c3,c4,c5,.int .i64 x.last]) x:=⟨[c0,.int .i64 x.l.most,c1,c2,c3,c4,c5,.int .i64 x.last],⟨[c0]++([.int .i64 x.l.most]++[c1]),([c2]++([c3]++([c4]++[c5])))++[.int .i64 x.last],rfl,⟨[c0],[.int .i64 x.l.most]++[c1],rfl,⟨c0,rfl,Cs.1 h0⟩,⟨[.int .i64 x.l.most],[c1],rfl,⟨rfl,h1⟩,⟨c1,rfl,Cs.1 h2⟩⟩⟩,⟨[c2]++([c3]++([c4]++[c5])),[.int .i64 x.last],rfl,⟨[c2],[c3]++([c4]++[c5]),rfl,⟨c2,rfl,Cs.1 h3⟩,⟨[c3],[c4]++[c5],rfl,⟨c3,rfl,Cs.1 h4⟩,⟨[c4],[c5],rfl,⟨c4,rfl,Cs.1 h5⟩,⟨c5,rfl,Cs.1 h6⟩⟩⟩⟩,⟨rfl,h7⟩⟩⟩,rfl⟩
structure Wrg where
 line:Int
 code:Int
deriving DecidableEq
instance:Dat Wrg:=.iso fun x=>(x.line,x.code)
theorem Wrg.f_line:Fld Wrg Int 0 Wrg.line:=⟨fun ρ cs x=>(Fld.fst:Fld ((Int)×(Int)) Int 0 _).at_ ρ cs (x.line,x.code)⟩
theorem Wrg.f_code:Fld Wrg Int 1 Wrg.code:=⟨fun ρ cs x=>((.snd Fld.self):Fld ((Int)×(Int)) Int 1 _).at_ ρ cs (x.line,x.code)⟩
theorem Wrg.shut{ρ}{x:Wrg}(h0:I64 x.line)(h1:I64 x.code):Val ρ (.agg #[.int .i64 x.line,.int .i64 x.code]) x:=⟨[.int .i64 x.line,.int .i64 x.code],⟨[.int .i64 x.line],[.int .i64 x.code],rfl,⟨rfl,h0⟩,⟨rfl,h1⟩⟩,rfl⟩
theorem Aot:Fw Tryz.prog 109 (.agg #[.slice none 0 0,.int .i64 0,.slice none 0 0,.slice none 0 0,.slice none 0 0,.slice none 0 0,.slice none 0 0]):=⟨_,Ab Bxb,rfl⟩
def Buf:List Value:=[.slice none 0 0,.int .i64 0,.slice none 0 0,.slice none 0 0,.slice none 0 0,.slice none 0 0,.slice none 0 0,.int .i64 0]
theorem Bum:Fw Tryz.prog 101 (.agg #[.slice none 0 0,.int .i64 0,.slice none 0 0,.slice none 0 0,.slice none 0 0,.slice none 0 0,.slice none 0 0,.int .i64 0]):=⟨_,Ab Tryz.typeInfo101,rfl⟩
def Ahl:List Value:=[.int .i64 0,.int .i64 0]
theorem Ahm:Fw Tryz.prog 107 (.agg #[.int .i64 0,.int .i64 0]):=⟨_,Ab Tryz.typeInfo107,rfl⟩
end
section
open Go
def Bbk(ρ:Ro)(v:Value)(l:Lab)(m:Market)(gr:Own):Prop:=∃(vk vt vh vm vf vs:Value) (gk gt gh gm gf gs:Own),v = .agg #[vk,.int .i64 l.most,vt,vh,vm,vf,vs]∧gr=gk++(gt++(gh++(gm++(gf++gs))))∧I64 l.most∧Grow ρ 9 vk l.kinds gk∧Grow ρ 46 vt l.tests gt∧Grow ρ 9 vh m.houses gh∧Grow ρ 9 vm m.marks gm∧Grow ρ 51 vf m.fields gf∧Grow ρ 54 vs m.sales gs
def RdB(p:PSt)(n:Nat):Prop:=p.l.kinds.length≤n∧p.l.tests.length≤n∧p.m.houses.length≤n∧p.m.marks.length≤n∧p.m.fields.length≤n∧p.m.sales.length≤n
theorem Ahi{x}:findI [bs Rb,bs Nj,bs wNo] (bs x)=(match Qi x with|some k=>k|none=>-1):=by
 have e:∀w:List UInt8,((bs w).data.toList=(bs x).data.toList)=(x=w):=fun w=>by show (w=x)=_;exact propext eq_comm
 have a:findI [] (bs x) = -1:=rfl
 unfold Qi
 simp only[Aql,e,a]
 by_cases h0:x=Rb
 ·simp[h0]
 by_cases h1:x=Nj
 ·subst h1;decide
 by_cases h2:x=wNo
 ·subst h2;decide
 simp[h0,h1,h2]
theorem Bdg{x}:-1≤findI [bs Rb,bs Nj,bs wNo] (bs x)∧findI [bs Rb,bs Nj,bs wNo] (bs x)≤2:=by
 rw[Ahi]
 unfold Qi
 split
 ·rename_i k h
  split at h
  ·cases h;omega
  ·split at h
   ·cases h;omega
   ·split at h
    ·cases h;omega
    ·cases h
 ·omega
theorem Bdi{x}(h:¬findI [bs Rb,bs Nj,bs wNo] (bs x)<0):Qi x=some (findI [bs Rb,bs Nj,bs wNo] (bs x)):=by
 rw[Ahi]at h ⊢
 cases hv:Qi x with
 | some k=>rfl
 | none=>rw[hv]at h;simp at h
theorem Bdh{x}(h:findI [bs Rb,bs Nj,bs wNo] (bs x)<0):Qi x=none:=by
 cases hv:Qi x with
 | none=>rfl
 | some k =>
  rw[Ahi,hv]at h
  simp only at h
  unfold Qi at hv
  split at hv
  ·cases hv;omega
  ·split at hv
   ·cases hv;omega
   ·split at hv
    ·cases hv;omega
    ·cases hv
theorem Ael{m x}(h:¬findI m.houses (bs x)<0):Nq m x=some (findI m.houses (bs x)):=by unfold Nq;rw[if_pos (by omega)]
theorem Aek{m x}(h:findI m.houses (bs x)<0):Nq m x=none:=by unfold Nq;rw[if_neg (by omega)]
theorem Aiy{l s}:-1≤findI l s∧findI l s<(l.length:Int):=by
 unfold findI
 rcases Ft (n:=l.length) (p:=Xi l s) with⟨i,hi,_,_,he⟩|⟨_,he⟩
 ·rw[he];simp only;omega
 ·rw[he];simp only;omega
theorem Aqj{α β:Type}{f:α→Option β}{l:List α}{i k:Nat}{r:List β}{x:α}{y:β}(h:Hy f ((l.take i).drop k)=some r)(hk:k≤i)(hx:l[i]?=some x)(hy:f x=some y):Hy f ((l.take (i+1)).drop k)=some (r++[y]):=by
 have hi:i<l.length:=(Mq.1 hx).1
 rw[Mv hx,Bjj (by rw[lZ6];omega)]
 exact Ajm h hy
theorem Aqf{α β}{f:α→Option β}{l:List α}{i k x}(hk:k≤i)(hx:l[i]?=some x)(hy:f x=none):Hy f (l.drop k)=none:=by
 refine Po (i:=i-k) (x:=x) ?_ hy
 rw[Yz,show k+(i-k)=i by omega];exact hx
theorem Aqe{α:Type}{l:List α}{i k}(h:i=l.length):(l.take i).drop k=l.drop k:=by rw[h,Qa]
theorem Adt{α β:Type}{f:α→Option β}:∀{l:List α} {r:List β},Hy f l=some r→r.length=l.length
 | [],r,h=>by rw[←Option.some.inj (show some []=some r from h)];rfl
 | a::l,r,h=>by
  have h':(match f a,Hy f l with|some a,some r=>some (a::r)|_,_=>none)=some r:=h
  cases ha:f a with
  | none=>rw[ha]at h';cases h'
  | some b =>
   cases hl:Hy f l with
   | none=>rw[ha,hl]at h';cases h'
   | some r' =>
    rw[ha,hl]at h'
    rw[←Option.some.inj h',lZ3,lZ3,Adt hl]
theorem Ark{ws r}(h:Hy Ii (wl ws)=some r)(hl:0<ws.length):0<r.length:=by
 rw[Adt h,Rt];exact hl
theorem Amn{α:Type}{l:List α}{i}:(l.take i).drop i=[]:=Azt (by rw[lZ6];omega)
theorem Afj{ws a}(h:ws[0]?=some a):wl ws=a.data.toList::(wl ws).drop 1:=by
 cases ws with
 | nil=>cases h
 | cons b r=>simp at h;subst h;rfl
section
variable{p:PSt}{u:List UInt8}{ws:List ByteArray}
theorem Bgd(h:ws.length=0):Afe p u (wl ws) = .inl 3:=by
 rw[Ain h];rfl
theorem Bgc{i a}(h0:0<ws.length)(hi:1≤i)(ha:ws[i]?=some a)(hv:Qi a.data.toList=none):Afe p u (wl ws) = .inl 3:=by
 rw[Afj (Sr h0)]
 unfold Afe
 simp only
 rw[Aqf hi (Pw ha) hv]
theorem Blc{i a r}(h0:ws[0]?=some a)(hi:i=ws.length)(hv:Hy Qi (((wl ws).take i).drop 1)=some r):Afe p u (wl ws) = .inr ⟨⟨p.l.kinds,p.l.most,p.l.tests++[⟨bs a.data.toList,r,u==Ot⟩]⟩,p.m,p.last⟩:=by
 rw[Aqe (by rw[Rt];exact hi)]at hv
 rw[Afj h0]
 unfold Afe
 simp only
 rw[hv]
theorem Bfx(h:ws.length<3):Aaw p (wl ws) = .inl 3:=by
 match ws,h with
 | [],_=>rfl
 | [a],_=>rfl
 | [a,b],_=>rfl
theorem Axu{a b}(h:3≤ws.length)(h0:ws[0]?=some a)(h1:ws[1]?=some b):∃g v,wl ws=a.data.toList::b.data.toList::g::v∧wl (ws.drop 2)=g::v:=by
 match ws,h with
 | x::y::z::r,_ =>
  simp at h0 h1
  subst h0 h1
  exact⟨z.data.toList,wl r,rfl,rfl⟩
theorem Vs{α β}{f:α→Option β}{g v}:Hy f (g::v)=(match f g,Hy f v with|some a,some r=>some (a::r)|_,_=>none):=rfl
theorem Bfw{a b}(h:3≤ws.length)(h0:ws[0]?=some a)(h1:ws[1]?=some b)(hv:Hy Ii (wl (ws.drop 2))=none):Aaw p (wl ws) = .inl 3:=by
 obtain⟨g,v,c,d⟩:=Axu h h0 h1
 rw[d,Vs]at hv
 rw[c]
 unfold Aaw
 simp only
 cases hg:Ii g with
 | none=>rfl
 | some x =>
  cases hr:Hy Ii v with
  | none=>rfl
  | some r=>rw[hg,hr]at hv;cases hv
theorem Aro{a b r}(h:3≤ws.length)(h0:ws[0]?=some a)(h1:ws[1]?=some b)(hv:Hy Ii (wl (ws.drop 2))=some r):∃x y,r=x::y∧Aaw p (wl ws)=(match Nq p.m b.data.toList with|some k=>.inr {p with m:={p.m with fields:=p.m.fields++[⟨bs a.data.toList,k,x,y⟩]}}|none=>.inl 6):=by
 obtain⟨g,v,c,d⟩:=Axu h h0 h1
 rw[d,Vs]at hv
 rw[c]
 unfold Aaw
 simp only
 cases hg:Ii g with
 | none=>rw[hg]at hv;cases hv
 | some x =>
  cases hr:Hy Ii v with
  | none=>rw[hg,hr]at hv;cases hv
  | some y=>rw[hg,hr]at hv;exact⟨x,y,(Option.some.inj hv).symm,rfl⟩
theorem Bky{a b r}(h:3≤ws.length)(h0:ws[0]?=some a)(h1:ws[1]?=some b)(hv:Hy Ii (wl (ws.drop 2))=some r)(hh:Nq p.m b.data.toList=none):Aaw p (wl ws) = .inl 6:=by
 obtain⟨x,y,_,e⟩:=Aro (p:=p) h h0 h1 hv
 rw[e,hh]
theorem Bkz{a b r x k}(h:3≤ws.length)(h0:ws[0]?=some a)(h1:ws[1]?=some b)(hv:Hy Ii (wl (ws.drop 2))=some r)(hx:r[0]?=some x)(hh:Nq p.m b.data.toList=some k):Aaw p (wl ws) = .inr ⟨p.l,⟨p.m.houses,p.m.marks,p.m.fields++[⟨a,k,x,r.drop 1⟩],p.m.sales⟩,p.last⟩:=by
 obtain⟨x',y,c,e⟩:=Aro (p:=p) h h0 h1 hv
 subst c
 simp at hx;subst hx
 rw[e,hh];rfl
theorem Bga(h:ws.length=0):Aax p (wl ws) = .inl 3:=by
 rw[Ain h];rfl
theorem Bgb{a}(h0:ws[0]?=some a)(h:Gn a.data.toList=false):Aax p (wl ws) = .inl 3:=by
 rw[Afj h0]
 unfold Aax
 simp only
 rw[Agt h]
theorem Bfz{i a b}(h0:ws[0]?=some a)(h:Gn a.data.toList=true)(hi:1≤i)(hb:ws[i]?=some b)(hv:Nq p.m b.data.toList=none):Aax p (wl ws) = .inl 6:=by
 rw[Afj h0]
 unfold Aax
 simp only
 rw[Zb h]
 simp only
 rw[Aqf hi (Pw hb) hv]
theorem Blb{i a r}(h0:ws[0]?=some a)(h:Gn a.data.toList=true)(hi:i=ws.length)(hv:Hy (Nq p.m) (((wl ws).take i).drop 1)=some r):Aax p (wl ws) = .inr ⟨p.l,⟨p.m.houses,p.m.marks,p.m.fields,p.m.sales++[⟨De a.data.toList,r⟩]⟩,p.last⟩:=by
 rw[Aqe (by rw[Rt];exact hi)]at hv
 rw[Afj h0]
 unfold Aax
 simp only
 rw[Zb h]
 simp only
 rw[hv]
theorem Bap(h:Hy Vn (wl ws)=none):Arp p (wl ws) = .inl 3:=by
 match ws,h with
 | [],_=>rfl
 | [a],h =>
  show (match Vn a.data.toList with|some n=>_|none=>_)=_
  cases hn:Vn a.data.toList with
  | none=>rfl
  | some n=>rw[show wl [a]=[a.data.toList] from rfl,Vs,hn]at h;cases h
 | a::b::r,_=>rfl
theorem Bfy{r}(h:Hy Vn (wl ws)=some r)(hl:¬((r.length:Nat):Int)=1):Arp p (wl ws) = .inl 3:=by
 have:=Adt h
 rw[Rt]at this
 match ws,this with
 | [],_=>rfl
 | [a],hh=>simp at hh;omega
 | a::b::r,_=>rfl
theorem Bla{r x}(h:Hy Vn (wl ws)=some r)(hl:((r.length:Nat):Int)=1)(hx:r[0]?=some x):Arp p (wl ws) = .inr ⟨⟨p.l.kinds,x,p.l.tests⟩,p.m,p.last⟩:=by
 have:=Adt h
 rw[Rt]at this
 match ws,this,h with
 | [],hh,_=>simp at hh;subst hh;simp at hl
 | [a],_,h =>
  show (match Vn a.data.toList with|some n=>_|none=>_)=_
  rw[show wl [a]=[a.data.toList] from rfl,Vs]at h
  cases hn:Vn a.data.toList with
  | none=>rw[hn]at h;cases h
  | some n =>
   rw[hn]at h
   have e:r=[n]:=(Option.some.inj h).symm
   subst e
   simp at hx;subst hx;rfl
 | a::b::r,hh,_=>simp at hh;omega
theorem Amz{g}(h:¬((ws.length:Nat):Int)=1):Aib (wl ws) g = .inl 3:=by
 match ws,h with
 | [],_=>rfl
 | [a],h=>exact absurd rfl h
 | a::b::r,_=>rfl
theorem Ana{g a}(h:((ws.length:Nat):Int)=1)(h0:ws[0]?=some a):Aib (wl ws) g = .inr (g a.data.toList):=by
 match ws,h,h0 with
 | [b],_,h0=>simp at h0;subst h0;rfl
theorem Btw(h:ws.length=0):wl ws=[]:=by rw[Ain h];rfl
theorem Btx(h:((ws.length:Nat):Int)>0):¬wl ws=[]:=fun e=>by
 have:=congrArg List.length e
 rw[Rt,lZ4]at this
 omega
end
/-- Seven cells,whatever they hold. -/
structure Jk7 where
instance:Dat Jk7 where
 k:=7
 agg:=true
 rep _ cs _:=cs.length=7∧∀c∈cs,single c=true
 mono _ h:=h
 len h:=h.1
 sgl h:=h.2
 one h:=by cases h
theorem jk7{ρ a b c d e f g}(h:Apk [a,b,c,d,e,f,g]):Val ρ (.agg #[a,b,c,d,e,f,g]) (⟨⟩:Jk7):=⟨[a,b,c,d,e,f,g],⟨rfl,Zh h⟩,rfl⟩
theorem Jk7.open_{ρ v}{z:Jk7}(h:Val ρ v z):∃a b c d e f g,v = .agg #[a,b,c,d,e,f,g]∧single a=true∧single b=true∧single c=true∧single d=true∧single e=true∧single f=true∧single g=true:=by
 obtain⟨cs,⟨j,i⟩,rfl⟩:=h
 match cs,j,i with
 | [a,b,c,d,e,f,g],_,i=>exact⟨a,b,c,d,e,f,g,rfl,i a (by simp),i b (by simp),i c (by simp),i d (by simp),i e (by simp),i f (by simp),i g (by simp)⟩
theorem Gk{α}[Dat α]{ρ σ g el v}{xs:List α}(h:Grow ρ el v xs g):Ghost ρ (g++σ) ρ σ:=drops h.1
end
section
open Go
theorem Atc{p:List UInt8}:∀{i:Nat},i≤p.length→(∀j,j<i→m2 p j=false)→Zr p i
 | 0,_,_=>Bvf
 | i+1,hi,h=>by
  obtain⟨c,hc⟩:=Va (p:=p) (i:=i) (by omega)
  refine Bhu (Atc (by omega) fun j hj=>h j (by omega)) hc ?_
  by_cases h1:c=46
  ·refine .inr fun a=>?_
   have:=h i (by omega)
   rw[Ats.2 ⟨by rw[hc,h1],a⟩]at this;cases this
  ·exact .inl h1
theorem Bhs{p i}(hm:m2 p i=true)(hn:∀j,j<i→m2 p j=false):Ue [] p=some ((p.take i).drop 0,(p.take p.length).drop (i+2)):=by
 obtain⟨a,b⟩:=Ats.1 hm
 have:=(Mq.1 a).1
 exact Aix (Atc (by omega) hn) a rfl b rfl
theorem Bno{p}(h:∀j,m2 p j=false):Ue [] p=none:=Bht (i:=p.length) (Atc (Lb _) fun j _=>h j) (by omega)
theorem Bip{p}(h:decide (Mi p≥0)=true):∃i:Nat,Mi p=(i:Int)∧i+1<p.length∧Ue [] p=some ((p.take i).drop 0,(p.take p.length).drop (i+2)):=by
 replace h:=lZ2 h
 rcases Abo (p:=p) with⟨i,a,b,c,d⟩|⟨a,_⟩
 ·exact⟨i,a,b,Bhs c d⟩
 ·omega
theorem Boa{p}(h:decide (Mi p≥0)=false):Ue [] p=none:=by
 replace h:=lZ1 h
 rcases Abo (p:=p) with⟨i,a,b,c,d⟩|⟨_,a⟩
 ·omega
 ·exact Bno a
theorem Bgj{ρ t fz g}(h:ρ g=some (.cells #[.string (bs Rb),.string (bs Nj),.string (bs wNo)] t fz)):Val ρ (.slice (some ⟨g,0,none⟩) 3 3) [bs Rb,bs Nj,bs wNo]:=by
 refine Cs.2 ⟨_,3,3,rfl,rfl,by omega,by omega,fun i x hx=>⟨g,0,rfl,?_⟩⟩
 have hc:(#[.string (bs Rb),.string (bs Nj),.string (bs wNo)]:Array Value).toList.drop i = .string x::(#[.string (bs Rb),.string (bs Nj),.string (bs wNo)]:Array Value).toList.drop (i+1)∧x.size<2^60:=by
  have hi:=(Mq.1 hx).1
  have a:i=0∨i=1∨i=2:=by simp at hi;omega
  rcases a with rfl|rfl|rfl<;>(simp only[Agl,Aem,Option.some.injEq]at hx;subst hx;exact⟨rfl,Qz rfl⟩)
 exact⟨g,0+i*Dat.k ByteArray,_,t,fz,[.string x],_,rfl,h,⟨rfl,hc.2⟩,by rw[show 0+i*Dat.k ByteArray=i from by show 0+i*1=i;omega];exact hc.1⟩
end
section
open Go
variable{mn:Bool}{X:Frame→List Frame→Ro→Own→Cy→Prop}{ρ:Ro}{σ:Own}
theorem Brh{p}(hg:GlobE ρ)(hb:p.length≤60000):CallsH (CX mn X) 168 #[.string (bs p),.string (bs ([46,46]:List UInt8))] ρ σ (fun w ρ' σ'=>Ro.le ρ ρ'∧σ'=σ∧((∃a b:List UInt8,Ue [] p=some (a,b)∧a.length≤p.length∧b.length≤p.length∧w = .tuple #[.string (bs a),.string (bs b),bT])∨(Ue [] p=none∧w = .tuple #[.string (bs p),.string (bs []),bF]))):=by
 refine Bq 23 [4,5,6] Tryz.func168 rfl fun Q e y=>w_q rfl rfl fun n f=>Au (.string (ByteArray.mk #[])) (Au _ (Au bF (Ds f fun q t g h=>Av (.string (bs p)) (Av _ ?_))))
 refine Arv (Ce (Bmr hg (by omega)) Bzs ?_)
 refine Au _ (Dr h fun u j=>Av (iV (Mi p)) (l_v (Rw) (l_k j (Cw (fun c=>?_) (fun c=>?_)))))
 ·obtain⟨i,hi,hil,d⟩:=Bip c
  refine Ai fun v k=>Px (Bw 0 (zT 1 11) rfl (Ah rfl) (Bw 1 (zT 2 10) rfl (Ah (congrArg (Value.int .i64) hi)) (Bw 2 (zT 3 9) rfl (Td Bwz rfl (.inl ⟨rfl,rfl⟩) (.inr ⟨_,rfl,rfl⟩) (by omega) (by omega)) (Bw 3 (zT 4 8) rfl (Ah rfl) (Bw 4 (zT 5 7) rfl (Ah (congrArg (Value.int .i64) hi)) (Bw 5 (zT 6 6) rfl (Ah rfl) (Bw 6 (zT 7 5) rfl (Ga Bwz rfl) (Bw 7 (zT 8 4) rfl (Dm _) (Bw 8 (zT 9 3) rfl (Td (l:=i+2) Bwz rfl (.inr ⟨_,rfl,rfl⟩) (.inl ⟨rfl,rfl⟩) (by omega) (by omega)) (Dp 9 (zT 10 2) rfl (Cp rfl) (Dp 10 (zT 11 1) rfl (Cp rfl) (Dp 11 (zT 12 0) rfl (Cp rfl) (Ec rfl (kk k ?_))))))))))))))
  refine Aq (e ⟨Cal,rfl,.inl ⟨_,_,d,by simp only[lZ6,lZ5];omega,by simp only[lZ6,lZ5];omega,Mp ⟨rfl,rfl,rfl,trivial⟩⟩⟩)
 have d:=Boa c
 refine Al (kk g ?_)
 refine Cr fun x m=>Av (.string (bs p)) (Au _ (Au _ (Au bF (l_k m (Aq (e ⟨Cal,rfl,.inr ⟨d,Mp ⟨rfl,rfl,rfl,trivial⟩⟩⟩))))))
theorem Buw{p}(hg:GlobE ρ)(hb:p.length≤60000):CallsH (CX mn X) 159 #[.string (bs p),.string (bs ([46,46]:List UInt8))] ρ σ (fun w ρ' σ'=>Ro.le ρ ρ'∧σ'=σ∧((∃a b:List UInt8,Ue [] p=some (a,b)∧a.length≤p.length∧b.length≤p.length∧w = .tuple #[.string (bs a),.string (bs b),bT])∨(Ue [] p=none∧w = .tuple #[.string (bs p),.string (bs []),bF]))):=by
 refine Bq 13 [4,5,6] Tryz.func159 rfl fun Q g u=>w_q rfl rfl fun m l=>Au (.string (ByteArray.mk #[])) (Au _ (Au bF (Dr l fun n h=>Av (.string (bs p)) (Av _ (Arv (Fj (Brh hg (by omega)) Tryz.func168 ⟨rfl,rfl,trivial⟩ fun v x y d=>?_))))))
 obtain⟨i,d⟩:=d
 rcases d with⟨c,⟨q,t,e,j,k,f⟩|⟨e,f⟩⟩
 ·replace c:=c.symm;subst c f
  refine l_v (Bp _) (l_v (Bp _) (l_v (Bp bT) (Au _ (Au _ (Au bT (l_k h (Aq (g ⟨i,rfl,.inl ⟨_,_,e,j,k,Mp ⟨rfl,rfl,rfl,trivial⟩⟩⟩))))))))
 replace c:=c.symm;subst c f
 refine l_v (Bp _) (l_v (Bp _) (l_v (Bp bF) (Au _ (Au _ (Au bF (l_k h (Aq (g ⟨i,rfl,.inr ⟨e,Mp ⟨rfl,rfl,rfl,trivial⟩⟩⟩))))))))
theorem Bhj{ws vw}(hg:GlobE ρ)(rw_:Val ρ vw ws)(hn:ws.length≤60001)(hw:∀w∈ws,w.data.toList.length≤60000):CallsH (CX mn X) 145 #[vw] ρ σ (fun w ρ' σ'=>Ro.le ρ ρ'∧σ'=σ∧((Hy Ii (wl ws)=none∧w = .tuple #[nS,bF])∨∃(r:List Span) (v:Value),Hy Ii (wl ws)=some r∧w = .tuple #[v,bT]∧Val ρ' v r)):=by
 refine Bq 60 [2,3] Tryz.func145 rfl fun Q z cf=>w_q rfl rfl fun K1 k1=>Au nS (Au bF (Dr k1 fun K2 k2=>Au nS (Ds k2 fun K3 K4 k3 k4=>Av vw ?_)))
 have g5:=Can rw_
 refine l_v (Pc (el:=9) Bwy rw_) (Av (iV 0) (l_k k4 (Ao (Cc (fun mm ee dd ρ' σ'=>∃(i:Nat) (nv:List Span) (E:Value) (T:Own),(ws.length-i)=mm∧[]=dd∧Ro.le ρ ρ'∧(T++σ)=σ'∧ee 14=vw∧ee 15=(iV (ws.length:Int))∧ee 4=E∧ee 16=iV i∧(i≤ws.length)∧(Hy Ii ((wl ws).take i)=some nv)∧(nv.length≤i)∧Grow ρ' 48 E nv T∧True) (m:=_) ⟨0,[],nS,[],rfl,rfl,Cal,rfl,rfl,rfl,rfl,rfl,Hz _,rfl,Lb _,Hm,trivial⟩ ?_))))
 rintro m6 e6 _ d2 _ ⟨i,nv,E,T,rfl,rfl,j,rfl,H,I,J,D,ch,F,ci,d,_⟩
 replace rw_:=Val.mono j rw_
 replace hg:=GlobE.mono j hg
 refine Cr fun K7 k7=>l_v (Da D I) (Asa k7 fun K8 k8=>Bu (t:=decide ((i:Int)<(ws.length:Int))) rfl (fun h=>?_) (fun h=>?_))
 ·have q:=lZ2 h
  refine Al (kk k8 ?_)
  refine Ai fun bm W=>Ao (Cr fun bn av=>?_)
  obtain⟨a,k⟩:=Ed (xs:=ws) (i:=i) (by omega)
  have cg:=hw _ (lZ8 k)
  refine Arw (Ch i Bwy ty9 H rw_ D rfl k) fun cn a4=>?_
  have c9:a.data.toList.length<2^60:=At.slen a4
  refine l_v (Fd ty9 a4) (Au _ (Dr av fun bo Y=>Av (.string a) (Arv (Fj (Buw (p:=a.data.toList) hg (by first|omega|(simp only[lZ6,lZ5]at *;omega))) Tryz.func159 ⟨rfl,rfl,trivial⟩ fun co ct d3 K=>?_))))
  obtain⟨n,K⟩:=K
  replace d:=Caj n d
  rcases K with⟨u,⟨b,c,l,ca,cb,O⟩|⟨l,O⟩⟩
  ·replace u:=u.symm;subst u O
   refine Av (.tuple #[.string (bs b),.string (bs c),bT]) (l_v (Bp _) (l_v (Bp _) (l_v (Bp bT) (Au _ (Au _ (Au bT (Dr Y fun bp aw=>Av (.string (bs b)) (Arv (Fj (Ady (s:=b) (by first|omega|(simp only[lZ6,lZ5]at *;omega))) Bzh ⟨rfl,trivial⟩ fun cp cu d4 an=>?_)))))))))
   obtain⟨B,L,aq⟩:=an
   replace L:=L.symm;subst L aq
   replace d:=Caj B d
   have cc:=Vo (s:=b)
   refine Av (.tuple #[iV (De b),.bool (Gn b)]) (l_v (Bp _) (l_v (Bp _) (Au _ (Au _ (Dr aw fun bq ax=>Av (iV (De b)) (Au _ (Au bT (Ds ax fun br bt ay az=>Av bT (l_k az (Et (Bf (Av (.string (bs c)) (Arv (Fj (Ady (s:=c) (by first|omega|(simp only[lZ6,lZ5]at *;omega))) Bzh ⟨rfl,trivial⟩ fun cq a7 d5 ao=>?_))))))))))))))
   obtain⟨C,M,ar⟩:=ao
   replace M:=M.symm;subst M ar
   replace d:=Caj C d
   have cd:=Vo (s:=c)
   refine Av (.tuple #[iV (De c),.bool (Gn c)]) (l_v (Bp _) (l_v (Bp _) (Au _ (Au _ (Ds ay fun bu bv b0 P=>Av (.bool (Gn b)) (l_v (Iy rfl) (Av (.bool (!(Gn b))) (Cn (!(Gn b)) (fun f=>?_) (fun f=>?_)))))))))
   ·have af:=not_eq_t f
    refine Ap (gNZ f) (Ap (gNZ f) (l_v (Es f (v:=bT)) (Av bT (Ap (gN rfl rfl) (Ap (gN rfl rfl) (Ap (Fl) (Ap (Fl) (Ap (Fl) (Ap (gN rfl rfl) (l_v (Es rfl (v:=bT)) (l_k P (Et (Cr fun bx b1=>Au nS (Au bF (l_k b1 (Hc d fun cv bc cj=>Aq (z ⟨Cam (Cam (Cam (Cam j n) B) C) bc,rfl,.inl ⟨Po (Pw k) (by rw[Wr l];simp[h,f,af,q]),Mp (r:=2) (r':=3) (v:=nS) ⟨rfl,rfl,trivial⟩⟩⟩)))))))))))))))))
   have G:=not_eq_f f
   refine Me _ (gY rfl f) (Aa (gY rfl f) (Iy rfl) (l_v (En f (v:=.bool (!(Gn c)))) (Av (.bool (!(Gn c))) (Cn (!(Gn c)) (fun e=>?_) (fun e=>?_)))))
   ·have ag:=not_eq_t e
    refine Ap (gNZ e) (Ap (gNZ e) (Ap (Fl) (Ap (Fl) (Ap (Fl) (Ap (gNZ e) (l_v (Es e (v:=bT)) (l_k P (Et (Cr fun bz b2=>Au nS (Au bF (l_k b2 (Hc d fun cw bd ck=>Aq (z ⟨Cam (Cam (Cam (Cam j n) B) C) bd,rfl,.inl ⟨Po (Pw k) (by rw[Wr l];simp[h,f,G,e,ag,q]),Mp (r:=2) (r':=3) (v:=nS) ⟨rfl,rfl,trivial⟩⟩⟩)))))))))))))
   have V:=not_eq_f e
   refine Me bT (gY rfl e) (Me bT (gY rfl e) (Me _ (gY rfl rfl) (Me _ (gY rfl rfl) (Aa (gY rfl rfl) (Hs) (Aa (gY rfl e) (Es rfl (v:=.bool ((De b)==(De c)))) (l_v (En e (v:=.bool ((De b)==(De c)))) (l_k P (Cw (fun y=>?_) (fun y=>?_)))))))))
   ·have U:=Jr y
    refine Cr fun c0 b3=>Au nS (Au bF (l_k b3 (Hc d fun cx be cl=>Aq (z ⟨Cam (Cam (Cam (Cam j n) B) C) be,rfl,.inl ⟨Po (Pw k) (by rw[Wr l];simp[h,f,G,e,V,y,q,U]),Mp (r:=2) (r':=3) (v:=nS) ⟨rfl,rfl,trivial⟩⟩⟩))))
   have U:=Jq y
   refine Al (kk b0 ?_)
   refine Bf (l_v (Ah J) (Av (iV (De b)) (Av (iV (De c)) ?_)))
   have bh:Val a7 (.agg #[iV (De b),iV (De c)]) (⟨De b,De c⟩:Span):=Span.shut (x:=(⟨De b,De c⟩:Span)) (iC (De b)) (iC (De c))
   refine l_v (Dn (ns:=[1,1]) (vs:=[(0,(iV (De b))),(1,(iV (De c)))]) (zc:=Arm) (cs:=[iV (De b),iV (De c)]) Bxl Aak rfl ⟨ty3.2,ty3.2,trivial⟩ (EvB.map ⟨⟨rfl,rfl⟩,⟨rfl,rfl⟩,trivial⟩) ((Be (cs:=[iV (De b)]) rfl rfl nL).trans ((Be (cs:=[iV (De c)]) rfl rfl nL).trans rfl))) (Arv (Cj (xs:=[(⟨De b,De c⟩:Span)]) (vs:=[.agg #[iV (De b),iV (De c)]]) Bxi Mx Aak (by decide) (Dk (os:=[.tmp 55]) ⟨rfl,trivial⟩) ⟨bh,trivial⟩ (by decide) fun Z aj ad=>?_))
   have a9:Grow a7 48 (.slice (some ⟨Z,0,none⟩) 1 1) ([(⟨De b,De c⟩:Span)]:List Span) [(Z,oC aj.toArray 48)]:=Bs ad rfl (by decide)
   refine Ca a9 fun cy a2 bi=>?_
   replace d:=Caj a2 d
   refine Arv (Ge Bxi Bxi (Ab Byt) nL d bi (by simp only[lZ0,lZ3,lZ4]at *;omega) fun a5 al aa=>?_)
   refine Au a5 (l_k W (Bf (l_v (Br D rfl wrE) (Av (iV ((i+1):Nat)) (Ac ?_)))))
   refine⟨_,?_,(i+1),(nv++([(⟨De b,De c⟩:Span)]:List Span)),a5,al,rfl,rfl,(Cam (Cam (Cam (Cam j n) B) C) a2),rfl,H,I,rfl,rfl,(by omega),(Vv F (Pw k) (by rw[Wr l];simp[h,f,G,e,V,y,q,U])),(by rw[lZ0];simp only[lZ3,lZ4];omega),(Fy rfl aa),trivial⟩
   omega
  replace u:=u.symm;subst u O
  refine Av (.tuple #[.string (bs a.data.toList),.string (bs ([]:List UInt8)),bF]) (l_v (Bp _) (l_v (Bp _) (l_v (Bp bF) (Au _ (Au _ (Au bF (Dr Y fun c1 b4=>Av (.string (bs a.data.toList)) (Arv (Fj (Ady (s:=a.data.toList) (by first|omega|(simp only[lZ6,lZ5]at *;omega))) Bzh ⟨rfl,trivial⟩ fun cr a8 d6 ap=>?_)))))))))
  obtain⟨R,N,au⟩:=ap
  replace N:=N.symm;subst N au
  replace d:=Caj R d
  have ce:=Vo (s:=a.data.toList)
  refine Av (.tuple #[iV (De a.data.toList),.bool (Gn a.data.toList)]) (l_v (Bp _) (l_v (Bp _) (Au _ (Au _ (Dr b4 fun c2 b5=>Av (iV (De a.data.toList)) (Au _ (Au bT (Ds b5 fun c3 c4 b6 b7=>Av bF (l_k b7 (Dy rfl (Al (kk b6 ?_))))))))))))
  refine Gw fun c5 c6 b8 a0=>Av (.bool (Gn a.data.toList)) (l_v (Iy rfl) (Av (.bool (!(Gn a.data.toList))) (Cn (!(Gn a.data.toList)) (fun g=>?_) (fun g=>?_))))
  ·have ah:=not_eq_t g
   refine Ap (gNZ g) (Ap (gN rfl g) (l_v (Es g (v:=bT)) (Av bT (Ap (gN rfl rfl) (Ap (gN rfl rfl) (Ap (Fl) (Ap (Fl) (Ap (Fl) (Ap (gN rfl rfl) (l_v (Es rfl (v:=bT)) (l_k a0 (Et (Cr fun c7 ba=>Au nS (Au bF (l_k ba (Hc d fun cz bf cm=>Aq (z ⟨Cam (Cam (Cam j n) R) bf,rfl,.inl ⟨Po (Pw k) (by rw[Amt l];simp[h,g,ah,q]),Mp (r:=2) (r':=3) (v:=nS) ⟨rfl,rfl,trivial⟩⟩⟩)))))))))))))))))
  have ai:=not_eq_f g
  refine Me bT (gY rfl g) (Aa (gY rfl g) (Iy rfl) (l_v (En g (v:=.bool (!(true)))) (Av (.bool (!(true))) (Me bF (gY rfl (not_t rfl)) (Me bF (gY rfl (not_t rfl)) (Ap (gN rfl rfl) (Ap (gN rfl rfl) (Ap (gN rfl rfl) (Aa (gY rfl (not_t rfl)) (En rfl (v:=bF)) (l_v (En (not_t rfl) (v:=bF)) (l_k a0 (Dy rfl (Al (kk b8 ?_))))))))))))))
  refine Bf (l_v (Ah J) (Av (iV (De a.data.toList)) (Av (iV (De a.data.toList)) ?_)))
  have bj:Val a8 (.agg #[iV (De a.data.toList),iV (De a.data.toList)]) (⟨De a.data.toList,De a.data.toList⟩:Span):=Span.shut (x:=(⟨De a.data.toList,De a.data.toList⟩:Span)) (iC (De a.data.toList)) (iC (De a.data.toList))
  refine l_v (Dn (ns:=[1,1]) (vs:=[(0,(iV (De a.data.toList))),(1,(iV (De a.data.toList)))]) (zc:=Arm) (cs:=[iV (De a.data.toList),iV (De a.data.toList)]) Bxl Aak rfl ⟨ty3.2,ty3.2,trivial⟩ (EvB.map ⟨⟨rfl,rfl⟩,⟨rfl,rfl⟩,trivial⟩) ((Be (cs:=[iV (De a.data.toList)]) rfl rfl nL).trans ((Be (cs:=[iV (De a.data.toList)]) rfl rfl nL).trans rfl))) (Arv (Cj (xs:=[(⟨De a.data.toList,De a.data.toList⟩:Span)]) (vs:=[.agg #[iV (De a.data.toList),iV (De a.data.toList)]]) Bxi Mx Aak (by decide) (Dk (os:=[.tmp 55]) ⟨rfl,trivial⟩) ⟨bj,trivial⟩ (by decide) fun a1 ak ae=>?_))
  have ab:Grow a8 48 (.slice (some ⟨a1,0,none⟩) 1 1) ([(⟨De a.data.toList,De a.data.toList⟩:Span)]:List Span) [(a1,oC ak.toArray 48)]:=Bs ae rfl (by decide)
  refine Ca ab fun d0 a3 bk=>?_
  replace d:=Caj a3 d
  refine Arv (Ge Bxi Bxi (Ab Byt) nL d bk (by simp only[lZ0,lZ3,lZ4]at *;omega) fun a6 am ac=>?_)
  refine Au a6 (l_k W (Bf (l_v (Br D rfl wrE) (Av (iV ((i+1):Nat)) (Ac ?_)))))
  refine⟨_,?_,(i+1),(nv++([(⟨De a.data.toList,De a.data.toList⟩:Span)]:List Span)),a6,am,rfl,rfl,(Cam (Cam (Cam j n) R) a3),rfl,H,I,rfl,rfl,(by omega),(Vv F (Pw k) (by rw[Amt l];simp[h,g,ai,q])),(by rw[lZ0];simp only[lZ3,lZ4];omega),(Fy rfl ac),trivial⟩
  omega
 have q:=lZ1 h
 refine Bx (kk k3 ?_)
 refine Ai fun c8 bb=>Hc d fun d1 bg bl=>Ag rfl rfl (l_v (Ah J) (Au _ (Au bT (l_k bb (Aq (z ⟨Cam j bg,rfl,.inr ⟨_,_,(by rw[show i=(wl ws).length by rw[Rt];omega,Qa]at F;exact F),Mp (r:=2) (r':=3) (v:=E) ⟨rfl,rfl,trivial⟩,bl⟩⟩))))))
theorem Bdd(s a:ByteArray):(a.toList==s.toList)=(s.toList==a.toList):=Bool.beq_comm
theorem Ake{l vl s}(rl:Val ρ vl l):CallsH (CX mn X) 158 #[vl,.string s] ρ σ (rP ρ σ (iV (findI l s))):=by
 refine Bq 19 [4] Bzr rfl fun Q t Y=>w_q rfl rfl fun I v=>Au (iV 0) (Ds v fun N O B C=>Av vl ?_)
 have W:=Can rl
 refine l_v (Pc (el:=9) Bwy rl) (Av (iV 0) (l_k C (Ao (Cc (fun mm ee dd ρ' σ'=>∃(i:Nat),(l.length-i)=mm∧[]=dd∧ρ=ρ'∧σ=σ'∧ee 0=vl∧ee 1=(.string s)∧ee 7=(iV (l.length:Int))∧ee 8=iV i∧(i≤l.length)∧(∀j,j<i→Xi l s j=false)∧True) (m:=_) ⟨0,rfl,rfl,rfl,rfl,rfl,rfl,rfl,rfl,Hz _,fun j h=>absurd h (Uk _),trivial⟩ ?_))))
 rintro Z U _ _ _ ⟨i,rfl,rfl,rfl,rfl,g,k,q,c,a0,e,_⟩
 refine Cr fun P D=>l_v (Da c q) (Asa D fun R E=>Bu rfl (fun b=>?_) (fun b=>?_))
 ·have H:=lZ2 b
  refine Al (kk E ?_)
  refine Ai fun T F=>Ao (Cr fun J w=>l_v (Ah c) (Au (iV i) (Dr w fun K x=>l_v (Ah k) (l_v (Ah g) (Av (iV i) ?_)))))
  obtain⟨f,d⟩:=Ed (xs:=l) (i:=i) (by omega)
  refine Arw (Em i Bwy ty9 rl d) fun a1 u=>?_
  have V:=At.slen u
  refine l_v (Fd ty9 u) (l_v (Aya (p:=s) rfl rfl) (l_k x (Cw (fun a=>?_) (fun a=>?_))))
  ·have G:=Jr a
   refine Cr fun L y=>Av (iV i) (Au (iV i) (l_k y (Aq (t (rT (iV i) ?_)))))
   have hi:=Fh (n:=l.length) e (by omega) (show Xi l s i=true by simp only[Xi,d];exact(Bdd s f).trans a)
   simp only[findI,hi]
  have G:=Jq a
  refine Al (kk F ?_)
  refine Bf (l_v (Br c rfl wrE) (Av (iV ((i+1):Nat)) (Ac ?_)))
  refine⟨_,?_,(i+1),rfl,rfl,rfl,rfl,g,k,q,rfl,(by omega),(Eg e (by simp only[Xi,d];exact(Bdd s f).trans a)),trivial⟩
  omega
 have H:=lZ1 b
 refine Bx (kk B ?_)
 refine Cr fun M z=>Au (iV (-1)) (l_k z (Aq (t (rT (iV (-1)) ?_))))
 have hn:=Ep (n:=l.length) fun j hj=>e j (by omega)
 simp only[findI,hn]
theorem Bml{l vl s}(rl:Val ρ vl l):CallsH (CX mn X) 143 #[vl,.string s] ρ σ (rP ρ σ (.bool (decide (findI l s≥0)))):=by
 refine Bq 9 [4] Tryz.func143 rfl fun Q a f=>w_q rfl rfl fun d b=>Au bF (Dr b fun e c=>Av vl (Av _ (Arv (Ce (Ake rl) Bzr ?_))))
 refine l_v (Rw) (Au _ (l_k c (Aq (a (rT _ ?_)))))
 rfl
theorem Bnc{ws vw}(hg:GlobE ρ)(rw_:Val ρ vw ws)(hn:ws.length≤60001)(hw:∀w∈ws,w.data.toList.length≤60000):CallsH (CX mn X) 144 #[vw] ρ σ (fun w ρ' σ'=>Ro.le ρ ρ'∧σ'=σ∧((Hy Qi (wl ws)=none∧w = .tuple #[nS,bF])∨∃(r:List Int) (v:Value),Hy Qi (wl ws)=some r∧w = .tuple #[v,bT]∧Val ρ' v r)):=by
 refine Bq 25 [2,3] Tryz.func144 rfl fun Q y ag=>w_q rfl rfl fun K1 K=>Au nS (Au bF (Dr K fun K2 R=>Au nS (Ds R fun K3 K4 V W=>Av vw ?_)))
 have g5:=Can rw_
 refine l_v (Pc (el:=9) Bwy rw_) (Av _ (l_k W (Ao (Cc (fun mm ee dd ρ' σ'=>∃(i:Nat) (nv:List Int) (e:Value) (k:Own),(ws.length-i)=mm∧[]=dd∧Ro.le ρ ρ'∧(k++σ)=σ'∧ee 8=vw∧ee 9=(iV (ws.length:Int))∧ee 4=e∧ee 10=iV i∧(i≤ws.length)∧(Hy Qi ((wl ws).take i)=some nv)∧(nv.length≤i)∧Grow ρ' 75 e nv k∧True) (m:=_) ⟨0,[],nS,[],rfl,rfl,Cal,rfl,rfl,rfl,rfl,rfl,Hz _,rfl,Lb _,Hm,trivial⟩ ?_))))
 rintro m6 e6 _ a5 _ ⟨i,nv,e,k,rfl,rfl,c,rfl,t,u,q,j,ai,n,aj,b,_⟩
 replace rw_:=Val.mono c rw_
 replace hg:=GlobE.mono c hg
 refine Cr fun K7 Y=>l_v (Da j u) (Asa Y fun K8 Z=>Bu rfl (fun g=>?_) (fun g=>?_))
 ·have q9:=lZ2 g
  refine Al (kk Z ?_)
  refine Ai fun a6 L=>Ao (Cr fun a7 M=>?_)
  obtain⟨a,d⟩:=Ed (xs:=ws) (i:=i) (by omega)
  have ah:=hw _ (lZ8 d)
  refine Arw (Ch i Bwy ty9 t rw_ j rfl d) fun am C=>?_
  have ae:a.data.toList.length<2^60:=At.slen C
  refine l_v (Fd ty9 C) (Au _ (Dr M fun a8 N=>?_))
  obtain⟨al,ad,J⟩:=hg.views
  have a2:=Bgj J
  refine l_v (Adp (l:=0) (h:=3) Bzp ty9.2 rfl (.inl ⟨rfl,rfl⟩) (.inl ⟨rfl,rfl⟩) (by decide) (by decide) (by decide)) (Av _ ?_)
  have af:=Bdg (x:=a.data.toList)
  refine Arv (Ce (Ake a2) Bzr ?_)
  refine Au _ (Ds N fun a9 aa O P=>Av (iV (findI [bs Rb,bs Nj,bs wNo] (bs a.data.toList))) (l_v (Fk) (l_k P (Cw (fun f=>?_) (fun f=>?_)))))
  ·have p:=lZ2 f
   refine Cr fun ab T=>Au nS (Au bF (l_k T (Hc b fun an a0 ak=>Aq (y ⟨Cam c a0,rfl,.inl ⟨Po (Pw d) (Bdh (x:=a.data.toList) p),Mp (r:=2) (r':=3) (v:=nS) ⟨rfl,rfl,trivial⟩⟩⟩))))
  have p:=lZ1 f
  refine Al (kk O ?_)
  refine Bf (l_v (Ah q) (Av _ (Arv (Cj (xs:=[findI [bs Rb,bs Nj,bs wNo] (bs a.data.toList)]) (vs:=[iV (findI [bs Rb,bs Nj,bs wNo] (bs a.data.toList))]) Bxq Pi Acl (by decide) (Dk (os:=[.tmp 20]) ⟨rfl,trivial⟩) ⟨Cv.2 ⟨rfl,by constructor<;>omega⟩,trivial⟩ (by decide) fun z H G=>?_))))
  have E:Grow a5 75 (.slice (some ⟨z,0,none⟩) 1 1) ([findI [bs Rb,bs Nj,bs wNo] (bs a.data.toList)]:List Int) [(z,oC H.toArray 75)]:=Bs G rfl (by decide)
  refine Ca E fun ao B a3=>?_
  replace b:=Caj B b
  refine Arv (Ge Bxq Bxq (Ab Bzl) nL b a3 (by simp only[lZ0,lZ3,lZ4]at *;omega) fun D I F=>?_)
  refine Au D (l_k L (Bf (l_v (Br j rfl wrE) (Av _ (Ac ?_)))))
  refine⟨_,?_,(i+1),(nv++([findI [bs Rb,bs Nj,bs wNo] (bs a.data.toList)]:List Int)),D,I,rfl,rfl,(Cam c B),rfl,t,u,rfl,rfl,(by omega),(Vv n (Pw d) (Bdi p)),(by rw[lZ0];simp only[lZ3,lZ4];omega),(Fy rfl F),trivial⟩
  omega
 have q9:=lZ1 g
 refine Bx (kk V ?_)
 refine Ai fun ac U=>Hc b fun ap a1 a4=>Ag rfl rfl (l_v (Ah q) (Au _ (Au bT (l_k U (Aq (y ⟨Cam c a1,rfl,.inr ⟨_,_,(by rw[show i=(wl ws).length by rw[Rt];omega,Qa]at n;exact n),Mp (r:=2) (r':=3) (v:=e) ⟨rfl,rfl,trivial⟩,a4⟩⟩))))))
end
section
open Go
def Azq:TypeDesc→Bool
 | .interface _=>true
 | _=>false
def Bwo:TypeDesc→Bool
 | .pointer _=>true
 | _=>false
section
variable{P:Program}{ρ:Ro}{e:Env}{ty t t':TypeId}{x y:Operand}{v:Value}
theorem Jd{d}(hT:P.underlying t=some d)(hd:Azq d=false)(hx:Af e x=v):Yld P ρ e (.makeInterface t x) ty (.iface t v) :=
 Mt (s:=Instr.makeInterface t (Af e x)) (fun _ _ _ _=>rfl) fun ρ' σ _=>by
 rw[hx]
 show wpS P ρ' ((underlying t).bind _) σ _
 rw[Ad]
 refine Az hT ?_
 cases d<;>first|exact⟨rfl,rfl⟩|cases hd
theorem Wh{d}(hT:P.underlying t'=some d)(hd:Azq d=false)(hx:Af e x = .iface t' v):Yld P ρ e (.typeAssert x t t' true) ty (.tuple #[v,.bool true]) :=
 Mt (s:=Instr.typeAssert (Af e x) t t' true) (fun _ _ _ _=>rfl) fun ρ' σ _=>by
 rw[hx]
 show wpS P ρ' ((underlying t').bind _) σ _
 rw[Ad]
 refine Az hT ?_
 cases d<;>first|(simp only[if_true];exact⟨rfl,rfl⟩)|cases hd
theorem Hx{d u z}(hT:P.underlying t'=some d)(hd:Azq d=false)(hz:Fw P t' z)(hu:¬u=t')(hx:Af e x = .iface u v):Yld P ρ e (.typeAssert x t t' true) ty (.tuple #[z,.bool false]) :=
 Mt (s:=Instr.typeAssert (Af e x) t t' true) (fun _ _ _ _=>rfl) fun ρ' σ _=>by
 rw[hx]
 show wpS P ρ' ((underlying t').bind _) σ _
 rw[Ad]
 refine Az hT ?_
 cases d<;>first|(simp only[hu,if_false,if_true];show wpS P ρ' ((zeroValue t').bind _) σ _;rw[Ad];exact Jz hz ⟨rfl,rfl⟩)|cases hd
theorem Nr{σ n name i m f d Q}(hi:P.info? t=some i)(hm:i.methods.find? (·.name==name)=some m)(hp:m.path.toList=[])(hf:m.func=some (f,false))(hT:P.underlying t=some d)(hd:Bwo d=false)(h:Q (f,v) σ):wpS P ρ (method (n+1) t v name) σ Q:=by
 show wpS P ρ ((typeInfo t).bind _) σ Q
 rw[Ad]
 refine Gj hi ?_
 simp only[hm]
 rw[hp]
 show wpS P ρ ((Sem.pure (t,Place.val v)).bind _) σ Q
 rw[Ad]
 show wpS P ρ (match m.func with|none=>_|some (f,pointerReceiver)=>_) σ Q
 rw[hf]
 show wpS P ρ ((receiverAt t (.val v) false _).bind _) σ Q
 rw[Ad]
 show wpS P ρ ((underlying t).bind _) σ _
 rw[Ad]
 refine Az hT ?_
 cases d<;>first|exact h|cases hd
end
section
variable{C:Ctx}{e:Env}{ds:List Deferred}{ρ:Ro}{σ:Own}{K:Value→List Deferred→Ro→Own→Prop}{rd:Option Nat}{dd:Option Tmp}
variable{ty:TypeId}{pos:String}{af:Array Edge}{g:Option (Nat×Bool)}{x:Operand}{t:TypeId}{v v':Value}
theorem Ahq{name args tys vs}(hx:Af e x = .iface t v)(hv:EvL e args vs):execOp (Af e) ⟨dd,.call ⟨.invoke x name,args.toArray,tys⟩,ty,pos,af,g⟩=callMethod (.iface t v) name vs.toArray:=by
 have hv':=hv.map
 show invoke (.fn (.method name) #[]) (#[Af e x]++args.toArray.map (Af e))=_
 rw[hv',hx]
 have a:(#[Value.iface t v]++vs.toArray)=(Value.iface t v::vs).toArray:=by simp
 rw[a]
 show callMethod (.iface t v) name ((Value.iface t v::vs).toArray.extract 1 (Value.iface t v::vs).toArray.size)=_
 congr 1
 simp
theorem Bln{name f fn args tys vs R}(hm:∀Q:FuncId×Value→Own→Prop,Q (f,v') σ→wpS C.P ρ (method (C.P.types.size+Made.depth) t v name) σ Q)(hc:CallsH C f (v'::vs).toArray ρ σ R)(hf:C.P.funcs[f]?=some fn)(hn:(fn.name == "runtime.NumGoroutine")=false)(hb:fn.body.isNone=false)(hx:Af e x = .iface t v)(hv:EvL e args vs)(h:∀v ρ' σ',R v ρ' σ'→K v ds ρ' σ'):wpS C.P ρ (execOp (Af e) ⟨dd,.call ⟨.invoke x name,args.toArray,tys⟩,ty,pos,af,g⟩) σ (NextH C K rd ds ρ):=by
 rw[Ahq hx hv]
 show wpS C.P ρ ((program).bind _) σ _
 rw[Ad]
 show wpS C.P ρ ((method (C.P.types.size+Made.depth) t v name).bind _) σ _
 rw[Ad]
 refine hm _ ?_
 have a:(#[v']++vs.toArray)=(v'::vs).toArray:=by simp
 show wpS C.P ρ (callFunc f (#[v']++vs.toArray)) σ _
 rw[a]
 exact Mr hf hn hb (hc.mono h)
end
end
section
open Go
theorem Abs:∀{s acc:List UInt8},(Sm acc s).length≤s.length+(if acc=[] then 0 else 1)∧∀w∈Sm acc s,w.length≤acc.length+s.length
 | [],acc=>by
  show (if acc=[] then [] else [acc]).length≤_∧∀w∈(if acc=[] then [] else [acc]),_
  by_cases h:acc=[]
  ·rw[if_pos h];exact⟨by simp,fun w hw=>by cases hw⟩
  ·rw[if_neg h,if_neg h];exact⟨by simp,fun w hw=>by rw[Sl.1 hw];simp⟩
 | x::s,acc=>by
  show (if x=10 then acc::Sm [] s else Sm (acc++[x]) s).length≤_∧∀w∈(if x=10 then acc::Sm [] s else Sm (acc++[x]) s),_
  by_cases h:x=10
  ·rw[if_pos h]
   obtain⟨h1,h2⟩:=Abs (s:=s) (acc:=[])
   rw[if_pos rfl]at h1
   refine⟨by rw[lZ3,lZ3];omega,fun w hw=>?_⟩
   rcases Nc.1 hw with rfl|hw
   ·omega
   ·have:=h2 w hw;simp only[lZ4,lZ3]at *;omega
  ·rw[if_neg h]
   obtain⟨h1,h2⟩:=Abs (s:=s) (acc:=acc++[x])
   rw[if_neg (by simp)]at h1
   refine⟨by rw[lZ3];omega,fun w hw=>?_⟩
   have:=h2 w hw
   simp only[lZ0,lZ3,lZ4]at *;omega
theorem Yj:∀{s acc:List UInt8},(Nz 32 acc s).length≤s.length+1∧∀w∈Nz 32 acc s,w.length≤acc.length+s.length
 | [],acc=>⟨by simp[Nz],fun w hw=>by rw[Sl.1 (show w∈[acc] from hw)];simp⟩
 | x::s,acc=>by
  show (if x=32 then acc::Nz 32 [] s else Nz 32 (acc++[x]) s).length≤_∧∀w∈(if x=32 then acc::Nz 32 [] s else Nz 32 (acc++[x]) s),_
  by_cases h:x=32
  ·rw[if_pos h]
   obtain⟨h1,h2⟩:=Yj (s:=s) (acc:=[])
   refine⟨by rw[lZ3,lZ3];omega,fun w hw=>?_⟩
   rcases Nc.1 hw with rfl|hw
   ·omega
   ·have:=h2 w hw;simp only[lZ4,lZ3]at *;omega
  ·rw[if_neg h]
   obtain⟨h1,h2⟩:=Yj (s:=s) (acc:=acc++[x])
   refine⟨by rw[lZ3];omega,fun w hw=>?_⟩
   have:=h2 w hw
   simp only[lZ0,lZ3,lZ4]at *;omega
theorem Bco{t}:(Ix t).length≤t.length:=by have:=(Abs (s:=t) (acc:=[])).1;rw[if_pos rfl]at this;exact this
theorem Bsn{t}{i:Nat}{a}(h:(bw (Ix t))[i]?=some a):(Ix t)[i]?=some a.data.toList∧a.data.toList.length≤t.length:=by
 have e:(Ix t)[i]?=some a.data.toList:=by
  unfold bw at h
  rw[Vl]at h
  cases hl:(Ix t)[i]? with
  | none=>rw[hl]at h;cases h
  | some x=>rw[hl]at h;rw[←Option.some.inj h];rfl
 refine⟨e,?_⟩
 have:=(Abs (s:=t) (acc:=[])).2 _ (lZ8 (show (Sm [] t)[i]?=_ from e))
 simp at this
 simpa using this
theorem Bpq{s u r}(h:Hn s=u::wl r):r.length≤s.length∧u.length≤s.length∧∀w∈r,w.data.toList.length≤s.length:=by
 obtain⟨b,a⟩:=Yj (s:=s) (acc:=[])
 have c:Nz 32 [] s=u::wl r:=h
 rw[c]at b a
 rw[lZ3,Rt]at b
 refine⟨by omega,by have:=a u mC;simpa using this,fun w hw=>?_⟩
 have:=a w.data.toList (lZ7 _ (Sz.2 ⟨w,hw,rfl⟩))
 simpa using this
theorem Bkh{i:Nat}{la last p}(hl:la=last∨(i=0∧la = -1∧last=0))(h1:p≥la)(h2:((((i:Int))==0)==(p==0))=true)(h3:p≠3∨la<3)(h4:p≤3∨la≥3):Nv i last p=true:=by
 have d:(i=0↔p=0):=by
  by_cases hi:i=0<;>by_cases hp:p=0<;>simp_all
 unfold Nv
 rw[Oe (show last≤p by rcases hl with rfl|⟨a,b,c⟩<;>omega)]
 have e:(decide (i=0)==decide (p=0))=true:=by
  by_cases hi:i=0
  ·rw[Oe hi,Oe (d.1 hi)];rfl
  ·rw[Jw hi,Jw (fun hc=>hi (d.2 hc))];rfl
 rw[e]
 have f:(decide (p≠3)||decide (last<3))=true:=by
  by_cases hp:p=3
  ·rw[Oe (show last<3 by rcases hl with rfl|⟨a,b,c⟩<;>omega)];simp
  ·rw[Oe hp];rfl
 have g:(decide (p≤3)||decide (3≤last))=true:=by
  by_cases hp:p≤3
  ·rw[Oe hp];rfl
  ·rw[Oe (show 3≤last by rcases hl with rfl|⟨a,b,c⟩<;>omega)];simp
 rw[f,g];rfl
theorem Bcv{i:Nat}{la last p}(hl:la=last∨(i=0∧la = -1∧last=0))(h:¬p≥la∨((((i:Int))==0)==(p==0))=false∨(p=3∧¬la<3)∨(¬p≤3∧¬la≥3)):Nv i last p=false:=by
 unfold Nv
 by_cases h2:((((i:Int))==0)==(p==0))=true
 ·have f:(i=0↔p=0):=by by_cases hi:i=0<;>by_cases hp:p=0<;>simp_all
  rcases h with h|h|⟨h,h'⟩|⟨h,h'⟩
  ·rw[Jw (show ¬last≤p by rcases hl with rfl|⟨a,b,c⟩<;>omega)];rfl
  ·rw[h]at h2;cases h2
  ·rw[Jw (show ¬p≠3 by omega),Jw (show ¬last<3 by rcases hl with rfl|⟨a,b,c⟩<;>omega)];simp
  ·rw[Jw h,Jw (show ¬3≤last by rcases hl with rfl|⟨a,b,c⟩<;>omega)];simp
 ·have d:(((i:Int))==0)=decide (i=0):=by
   by_cases hi:i=0
   ·rw[Oe hi,hi];rfl
   ·rw[Jw hi];exact beq_eq_false_iff_ne.2 (by omega)
  have e:(p==0)=decide (p=0):=by
   by_cases hp:p=0
   ·rw[Oe hp,hp];rfl
   ·rw[Jw hp];exact beq_eq_false_iff_ne.2 hp
  rw[d,e]at h2
  rw[Bcb.2 h2];simp
theorem Axj{i p s}(h:Na s=true):Qw i p s = .inl 3:=by
 unfold Qw
 unfold Na at h
 cases hs:Hn s with
 | nil=>rfl
 | cons w f=>rw[hs]at h;simp only;rw[if_pos h]
theorem Amy{i p s u f}(h:Na s=false)(hs:Hn s=u::f)(ho:Nv i p.last (Ji u)=false):Qw i p s = .inl 3:=by
 unfold Qw
 unfold Na at h
 rw[hs]at h ⊢
 simp only
 rw[if_neg (by rw[h];simp),if_neg (by rw[ho];simp)]
theorem Ahf{i p s u f}(h:Na s=false)(hs:Hn s=u::f)(ho:Nv i p.last (Ji u)=true):Qw i p s=(match Ox p u f with | .inl e=>.inl e | .inr q=>.inr {q with last:=Ji u}):=by
 unfold Qw
 unfold Na at h
 rw[hs]at h ⊢
 simp only
 rw[if_neg (by rw[h];simp),if_pos ho]
 cases Ox p u f<;>rfl
theorem Bdc{i p s u f e}(h:Na s=false)(hs:Hn s=u::f)(ho:Nv i p.last (Ji u)=true)(ht:Ox p u f = .inl e):Qw i p s = .inl e:=by
 rw[Ahf h hs ho,ht]
theorem Bkx{i p q s u f}(h:Na s=false)(hs:Hn s=u::f)(ho:Nv i p.last (Ji u)=true)(ht:Ox p u f = .inr q):Qw i p s = .inr ⟨q.l,q.m,Ji u⟩:=by
 rw[Ahf h hs ho,ht]
theorem Bqt:RdB p0 0:=⟨Lb _,Lb _,Lb _,Lb _,Lb _,Lb _⟩
theorem Axa{p n k}(h:RdB p n)(hk:n≤k):RdB p k:=by
 obtain⟨a,b,c,d,e,f⟩:=h
 exact⟨by omega,by omega,by omega,by omega,by omega,by omega⟩
theorem Bkq{p q u f n}(h:Ox p u f = .inr q)(hb:RdB p n):RdB q (n+1):=by
 obtain⟨c,d,e,g,i,j⟩:=hb
 have fin:∀{a b:PSt},(Sum.inr a:Sum Int PSt) = .inr b→a=b:=fun h=>Sum.inr.inj h
 unfold Ox at h
 split at h
 ·unfold Arp at h
  split at h
  ·split at h
   ·cases h;exact⟨by simp only;omega,by simp only;omega,by simp only;omega,by simp only;omega,by simp only;omega,by simp only;omega⟩
   ·cases h
  ·cases h
 split at h
 ·unfold Afe at h
  split at h
  ·cases h
  ·split at h
   ·cases h;exact⟨by simp only;omega,by simp only[lZ0,lZ3,lZ4];omega,by simp only;omega,by simp only;omega,by simp only;omega,by simp only;omega⟩
   ·cases h
 split at h
 ·split at h
  ·cases h;exact⟨by omega,by omega,by omega,by omega,by omega,by omega⟩
  ·cases h
 split at h
 ·unfold Aaw at h
  split at h
  ·split at h
   ·split at h
    ·cases h;exact⟨by simp only;omega,by simp only;omega,by simp only;omega,by simp only;omega,by simp only[lZ0,lZ3,lZ4];omega,by simp only;omega⟩
    ·cases h
   ·cases h
  ·cases h
 split at h
 ·unfold Aax at h
  split at h
  ·cases h
  ·split at h
   ·split at h
    ·cases h;exact⟨by simp only;omega,by simp only;omega,by simp only;omega,by simp only;omega,by simp only;omega,by simp only[lZ0,lZ3,lZ4];omega⟩
    ·cases h
   ·cases h
 split at h
 ·unfold Aib at h
  split at h
  ·cases h;exact⟨by simp only[lZ0,lZ3,lZ4];omega,by simp only;omega,by simp only;omega,by simp only;omega,by simp only;omega,by simp only;omega⟩
  ·cases h
 split at h
 ·unfold Aib at h
  split at h
  ·cases h;exact⟨by simp only;omega,by simp only;omega,by simp only[lZ0,lZ3,lZ4];omega,by simp only;omega,by simp only;omega,by simp only;omega⟩
  ·cases h
 ·unfold Aib at h
  split at h
  ·cases h;exact⟨by simp only;omega,by simp only;omega,by simp only;omega,by simp only[lZ0,lZ3,lZ4];omega,by simp only;omega,by simp only;omega⟩
  ·cases h
theorem Aml{t}(h:((t.length:Nat):Int)>60000):Gb t=(emL,emM,0,2):=by unfold Gb;rw[if_pos h]
theorem Zf{t i p s f}(hn:¬((t.length:Nat):Int)>60000)(h:Wl 0 p0 ((Ix t).take i) = .inr p)(hs:(Ix t)[i]?=some s)(hq:Qw i p s = .inl f):Gb t=(emL,emM,(i:Int)+1,f):=by
 unfold Gb;rw[if_neg hn,Bks h hs hq]
theorem Bcy{t i p}(h:Wl 0 p0 ((Ix t).take i) = .inr p)(hi:i=(bw (Ix t)).length):Wl 0 p0 (Ix t) = .inr p:=by
 rw[hi,show (bw (Ix t)).length=(Ix t).length by simp[bw],Qa]at h;exact h
theorem Amh{t p}(hn:¬((t.length:Nat):Int)>60000)(h:Wl 0 p0 (Ix t) = .inr p)(hl:p.last<3):Gb t=(emL,emM,0,3):=by
 unfold Gb;rw[if_neg hn,h];simp only;rw[if_pos hl]
theorem Arb{t p}(hn:¬((t.length:Nat):Int)>60000)(h:Wl 0 p0 (Ix t) = .inr p)(hl:¬p.last<3)(hf:Gh p.l≠0):Gb t=(emL,emM,0,Gh p.l):=by
 unfold Gb;rw[if_neg hn,h];simp only;rw[if_neg hl,Ry hf,if_neg hf]
theorem Aey{t p}(hn:¬((t.length:Nat):Int)>60000)(h:Wl 0 p0 (Ix t) = .inr p)(hl:¬p.last<3)(hf:Gh p.l=0)(hg:Cf p.m≠0):Gb t=(emL,emM,0,Cf p.m):=by
 unfold Gb;rw[if_neg hn,h];simp only;rw[if_neg hl,Gr hf,if_neg hg]
theorem Ami{t p}(hn:¬((t.length:Nat):Int)>60000)(h:Wl 0 p0 (Ix t) = .inr p)(hl:¬p.last<3)(hf:Gh p.l=0)(hg:Cf p.m=0):Gb t=(p.l,p.m,0,0):=by
 unfold Gb;rw[if_neg hn,h];simp only;rw[if_neg hl,Gr hf,if_pos hg]
theorem Bqs{i:Nat}{la last p}(hl:la=last∨(i=0∧la = -1∧last=0))(h1:p≥la)(h2:((((i:Int))==0)==(p==0))=true)(h3:p≠3∨la<3)(h4:¬p≤3):Nv i last p=decide (la≥3):=by
 by_cases h:la≥3
 ·rw[Oe h];exact Bkh hl h1 h2 h3 (.inr h)
 ·rw[Jw h];exact Bcv hl (.inr (.inr (.inr ⟨h4,h⟩)))
/-- What a line says. -/
inductive Ent where
 | lab (n:Int)
 | kind (s:ByteArray)
 | test (t:FTest)
 | go
 | name (mark:Bool) (s:ByteArray)
 | field (x:FField) (h:ByteArray)
 | sale (n:Int) (l:List ByteArray)
def Ib:Ent→Int
 | .lab _=>0
 | .kind _=>1
 | .test _=>2
 | .go=>3
 | .name mark _=>if mark=true then 5 else 4
 | .field _ _=>6
 | .sale _ _=>7
def Iv(p:PSt):Ent→Sum Int PSt
 | .lab n=>.inr ⟨⟨p.l.kinds,n,p.l.tests⟩,p.m,p.last⟩
 | .kind s=>.inr ⟨⟨p.l.kinds++[s],p.l.most,p.l.tests⟩,p.m,p.last⟩
 | .test t=>.inr ⟨⟨p.l.kinds,p.l.most,p.l.tests++[t]⟩,p.m,p.last⟩
 | .go=>.inr p
 | .name mark s=>if mark=true then .inr ⟨p.l,⟨p.m.houses,p.m.marks++[s],p.m.fields,p.m.sales⟩,p.last⟩ else .inr ⟨p.l,⟨p.m.houses++[s],p.m.marks,p.m.fields,p.m.sales⟩,p.last⟩
 | .field x h=>match Nq p.m h.data.toList with
  | some k=>.inr ⟨p.l,⟨p.m.houses,p.m.marks,p.m.fields++[⟨x.name,k,x.grows,x.marks⟩],p.m.sales⟩,p.last⟩
  | none=>.inl 6
 | .sale n l=>match Hy (Nq p.m) (wl l) with
  | some x=>.inr ⟨p.l,⟨p.m.houses,p.m.marks,p.m.fields,p.m.sales++[⟨n,x⟩]⟩,p.last⟩
  | none=>.inl 6
def Qk(u:List UInt8)(ws:List ByteArray):Option Ent :=
 if u=Fv then (if ws.length=0 then some .go else none)
 else if u=Pt∨u=Ot then (match ws[0]?,Hy Qi (wl (ws.drop 1)) with|some a,some x=>some (.test ⟨a,x,u==Ot⟩)|_,_=>none)
 else if u=Im then (if ws.length≤2 then none else match ws[0]?,ws[1]?,Hy Ii (wl (ws.drop 2)) with
  | some a,some b,some r=>(match r[0]? with|some x=>some (.field ⟨a,0,x,r.drop 1⟩ b)|none=>none)
  | _,_,_=>none)
 else match ws[0]? with
  | none=>none
  | some a=>if u=Od∧Gn a.data.toList=true then some (.sale (De a.data.toList) (ws.drop 1))
   else if 1<ws.length then none
   else if u=wLab∧Gn a.data.toList=true then some (.lab (De a.data.toList))
   else if u=Pj then some (.kind a)
   else if u=Md∨u=Ob then some (.name (u==Ob) a) else none
def Acy(s:List UInt8):Option Ent:=if Na s=true then none else match Hn s with
 | []=>none
 | u::f=>Qk u (bw f)
theorem ws0{ws:List ByteArray}(h:ws.length=0):ws=[]:=Ain h
theorem Awt{s}(h:¬Gn s=true):Vn s=none:=Agt (by simpa using h)
theorem Bhv{p n u ws}(h0:0≤p.last)(h:Qk u ws=none)(ho:Nv n p.last (Ji u)=true):Ox p u (wl ws) = .inl 3:=by
 unfold Qk at h
 unfold Ox
 split at h
 ·next hu =>
  subst hu
  rw[if_neg (by decide),if_neg (by decide),if_pos rfl]
  split at h
  ·cases h
  ·next hl=>rw[if_neg];intro hw;exact hl (by have:=congrArg List.length hw;simpa[wl]using this)
 ·next hu =>
  split at h
  ·next hv =>
   rw[if_neg (by rcases hv with rfl|rfl<;>decide),if_pos hv]
   match ws,h with
   | [],_=>rfl
   | a::r,h =>
    show (match Hy Qi (wl r) with|some x=>_|none=>_)=_
    cases hr:Hy Qi (wl r) with
    | none=>rfl
    | some x=>simp[hr]at h
  ·next hv =>
   split at h
   ·next hf =>
    subst hf
    rw[if_neg (by decide),if_neg (by decide),if_neg (by decide),if_pos rfl]
    match ws,h with
    | [],_=>rfl
    | [a],_=>rfl
    | [a,b],_=>rfl
    | a::b::g::r,h =>
     rw[if_neg (by simp only[lZ3];omega)]at h
     simp only[Agl,Aem,Bey,Air]at h
     show (match Ii g.data.toList,Hy Ii (wl r) with|some x,some y=>_|_,_=>_)=_
     have c:Hy Ii (wl (g::r))=_:=Vs (f:=Ii) (g:=g.data.toList) (v:=wl r)
     rw[c]at h
     cases hg:Ii g.data.toList with
     | none=>rfl
     | some x =>
      cases hr:Hy Ii (wl r) with
      | none=>rfl
      | some y=>simp[hg,hr]at h
   ·next hf =>
    rw[if_neg hv,if_neg hu,if_neg hf]
    match ws,h with
    | [],_ =>
     split
     ·rfl
     ·split
      ·rfl
      ·split
       ·rfl
       ·split<;>rfl
    | a::r,h =>
     simp only[Agl,lZ3]at h
     split at h
     ·cases h
     ·next hs =>
      split
      ·next hl =>
       subst hl
       show Arp p (a.data.toList::wl r)=_
       match r,h with
       | [],h =>
        rw[if_neg (by simp)]at h
        show (match Vn a.data.toList with|some n=>_|none=>_)=_
        by_cases hn:Gn a.data.toList=true
        ·rw[if_pos ⟨rfl,hn⟩]at h;cases h
        ·rw[Awt hn]
       | b::r,_=>rfl
      ·next hl =>
       split
       ·next hsa =>
        show (match Vn a.data.toList with|some n=>_|none=>_)=_
        by_cases hn:Gn a.data.toList=true
        ·exact absurd ⟨hsa,hn⟩ hs
        ·rw[Awt hn]
       ·next hsa =>
        match r,h with
        | b::r,_ =>
         split
         ·rfl
         ·split<;>rfl
        | [],h =>
         rw[if_neg (by simp),if_neg (fun hh=>hl hh.1)]at h
         split at h
         ·cases h
         ·next hk =>
          rw[if_neg hk]
          split at h
          ·cases h
          ·next hm =>
           exfalso
           have hp:Ji u = -1:=by
            unfold Ji
            rw[if_neg (fun e=>hv (.inr e)),if_neg hl,if_neg hk,if_neg (fun e=>hv (.inl e)),if_neg hu,if_neg (fun e=>hm (.inl e)),if_neg (fun e=>hm (.inr e)),if_neg hf,if_neg hsa]
           rw[hp]at ho
           unfold Nv at ho
           simp only[Tj,decide_eq_true_eq]at ho
           omega
theorem Bhw{p u ws e}(h:Qk u ws=some e):Ji u=Ib e∧Ox p u (wl ws)=Iv p e:=by
 unfold Qk at h
 unfold Ox
 split at h
 ·next hu =>
  subst hu
  split at h
  ·next hl =>
   cases h
   rw[ws0 hl]
   exact⟨by decide,rfl⟩
  ·cases h
 ·next hu =>
  split at h
  ·next hv =>
   have hp:Ji u=2:=by rcases hv with rfl|rfl<;>decide
   rw[hp,if_neg (by rcases hv with rfl|rfl<;>decide),if_pos hv]
   match ws,h with
   | [],h=>cases h
   | a::r,h =>
    simp only[Agl,Bey,Air]at h
    cases hr:Hy Qi (wl r) with
    | none=>rw[hr]at h;cases h
    | some x =>
     rw[hr]at h
     cases h
     refine⟨rfl,?_⟩
     show (match Hy Qi (wl r) with|some x=>_|none=>_)=_
     rw[hr];rfl
  ·next hv =>
   split at h
   ·next hf =>
    subst hf
    rw[if_neg (by decide),if_neg (by decide),if_neg (by decide),if_pos rfl]
    match ws,h with
    | [],h=>cases h
    | [a],h=>cases h
    | [a,b],h=>cases h
    | a::b::g::r,h =>
     rw[if_neg (by simp only[lZ3];omega)]at h
     simp only[Agl,Aem,Bey,Air]at h
     show _∧(match Ii g.data.toList,Hy Ii (wl r) with|some x,some y=>_|_,_=>_)=_
     have c:Hy Ii (wl (g::r))=_:=Vs (f:=Ii) (g:=g.data.toList) (v:=wl r)
     rw[c]at h
     cases hg:Ii g.data.toList with
     | none=>rw[hg]at h;cases h
     | some x =>
      cases hr:Hy Ii (wl r) with
      | none=>rw[hg,hr]at h;cases h
      | some y =>
       rw[hg,hr]at h
       cases h
       exact⟨(show Ji Im=6 by decide),rfl⟩
   ·next hf =>
    rw[if_neg hv,if_neg hu,if_neg hf]
    match ws,h with
    | [],h=>cases h
    | a::r,h =>
     simp only[Agl,lZ3,Bey,Air]at h
     split at h
     ·next hs =>
      cases h
      obtain⟨rfl,hn⟩:=hs
      rw[if_neg (by decide),if_pos rfl]
      refine⟨(show Ji Od=7 by decide),?_⟩
      show (match Vn a.data.toList with|some n=>_|none=>_)=_
      rw[Zb hn]
      rfl
     ·next hs =>
      match r,h with
      | b::r,h=>rw[if_pos (by simp only[lZ3];omega)]at h;cases h
      | [],h =>
       rw[if_neg (by simp)]at h
       split at h
       ·next hl =>
        cases h
        obtain⟨rfl,hn⟩:=hl
        rw[if_pos rfl]
        refine⟨(show Ji wLab=0 by decide),?_⟩
        show (match Vn a.data.toList with|some n=>_|none=>_)=_
        rw[Zb hn];rfl
       ·next hl =>
        split at h
        ·next hk=>cases h;subst hk;exact⟨(show Ji Pj=1 by decide),rfl⟩
        ·next hk =>
         split at h
         ·next hm =>
          cases h
          rcases hm with rfl|rfl
          ·exact⟨(show Ji Md=(if (Md==Ob)=true then 5 else 4) by decide),rfl⟩
          ·exact⟨(show Ji Ob=(if (Ob==Ob)=true then 5 else 4) by decide),rfl⟩
         ·cases h
theorem Arn{i p s}(h0:0≤p.last)(h:Acy s=none):Qw i p s = .inl 3:=by
 unfold Acy at h
 split at h
 ·next he=>exact Axj he
 ·next he =>
  replace he:Na s=false:=by simpa using he
  cases hs:Hn s with
  | nil=>exact absurd hs Wt
  | cons u f =>
   rw[hs]at h
   cases ho:Nv i p.last (Ji u) with
   | false=>exact Amy he hs ho
   | true=>exact Bdc he hs ho (by have:=Bhv h0 h ho;rw[Ank]at this;exact this)
theorem Amx{i p s e}(h:Acy s=some e):Qw i p s=if Nv i p.last (Ib e)=true then (match Iv p e with | .inl f=>.inl f | .inr q=>.inr ⟨q.l,q.m,Ib e⟩) else .inl 3:=by
 unfold Acy at h
 split at h
 ·cases h
 ·next he =>
  replace he:Na s=false:=by simpa using he
  cases hs:Hn s with
  | nil=>exact absurd hs Wt
  | cons u f =>
   rw[hs]at h
   obtain⟨b,a⟩:=Bhw (p:=p) h
   rw[Ank]at a
   rw[←b,←a]
   cases ho:Nv i p.last (Ji u) with
   | false=>rw[if_neg (by simp)];exact Amy he hs ho
   | true=>rw[if_pos rfl];exact Ahf he hs ho
structure ELab where
 most:Int
deriving DecidableEq
instance:Dat ELab:=.iso fun x=>x.most
theorem ELab.f_most:Fld ELab Int 0 ELab.most:=⟨fun ρ cs x=>(Fld.self:Fld Int Int 0 _).at_ ρ cs x.most⟩
theorem ELab.shut{ρ}{x:ELab}(h0:I64 x.most):Val ρ (.agg #[.int .i64 x.most]) x:=⟨[.int .i64 x.most],⟨rfl,h0⟩,rfl⟩
structure EKind where
 name:ByteArray
deriving DecidableEq
instance:Dat EKind:=.iso fun x=>x.name
theorem EKind.f_name:Fld EKind ByteArray 0 EKind.name:=⟨fun ρ cs x=>(Fld.self:Fld ByteArray ByteArray 0 _).at_ ρ cs x.name⟩
theorem EKind.shut{ρ}{x:EKind}(h0:x.name.size<2^60):Val ρ (.agg #[.string x.name]) x:=⟨[.string x.name],⟨rfl,h0⟩,rfl⟩
structure ETest where
 t:FTest
deriving DecidableEq
instance:Dat ETest:=.iso fun x=>x.t
theorem ETest.f_t:Fld ETest FTest 0 ETest.t:=⟨fun ρ cs x=>(Fld.self:Fld FTest FTest 0 _).at_ ρ cs x.t⟩
theorem ETest.shut{ρ}{x:ETest}{c0}(h0:x.t.name.size<2^60)(h1:Val ρ c0 x.t.sees):Val ρ (.agg #[.string x.t.name,c0,.bool x.t.errs]) x:=⟨[.string x.t.name,c0,.bool x.t.errs],⟨[.string x.t.name],[c0]++[.bool x.t.errs],rfl,⟨rfl,h0⟩,⟨[c0],[.bool x.t.errs],rfl,⟨c0,rfl,Cs.1 h1⟩,rfl⟩⟩,rfl⟩
structure EName where
 mark:Bool
 name:ByteArray
deriving DecidableEq
instance:Dat EName:=.iso fun x=>(x.mark,x.name)
theorem EName.f_mark:Fld EName Bool 0 EName.mark:=⟨fun ρ cs x=>(Fld.fst:Fld ((Bool)×(ByteArray)) Bool 0 _).at_ ρ cs (x.mark,x.name)⟩
theorem EName.f_name:Fld EName ByteArray 1 EName.name:=⟨fun ρ cs x=>((.snd Fld.self):Fld ((Bool)×(ByteArray)) ByteArray 1 _).at_ ρ cs (x.mark,x.name)⟩
theorem EName.shut{ρ}{x:EName}(h0:x.name.size<2^60):Val ρ (.agg #[.bool x.mark,.string x.name]) x:=⟨[.bool x.mark,.string x.name],⟨[.bool x.mark],[.string x.name],rfl,rfl,⟨rfl,h0⟩⟩,rfl⟩
structure EField where
 x:FField
 house:ByteArray
deriving DecidableEq
instance:Dat EField:=.iso fun x=>(x.x,x.house)
theorem EField.open_{ρ v}{x:EField}(h:Val ρ v x):∃c0,v = .agg #[.string x.x.name,.int .i64 x.x.house,.int .i64 x.x.grows.low,.int .i64 x.x.grows.high,c0,.string x.house]∧x.x.name.size<2^60∧I64 x.x.house∧I64 x.x.grows.low∧I64 x.x.grows.high∧Val ρ c0 x.x.marks∧x.house.size<2^60:=by
 obtain⟨cs,⟨y,E,n,⟨z,F,p,⟨b,i⟩,⟨B,G,q,⟨c,j⟩,⟨C,H,t,⟨D,I,u,⟨d,k⟩,⟨e,l⟩⟩,⟨w,f,m⟩⟩⟩⟩,⟨a,g⟩⟩,hv⟩:=h
 subst p
 subst q
 subst u
 subst t
 subst n
 subst b
 subst c
 subst d
 subst e
 subst f
 subst a
 exact⟨w,hv,i,j,k,l,Cs.2 m,g⟩
theorem EField.shut{ρ}{x:EField}{c0}(h0:x.x.name.size<2^60)(h1:I64 x.x.house)(h2:I64 x.x.grows.low)(h3:I64 x.x.grows.high)(h4:Val ρ c0 x.x.marks)(h5:x.house.size<2^60):Val ρ (.agg #[.string x.x.name,.int .i64 x.x.house,.int .i64 x.x.grows.low,.int .i64 x.x.grows.high,c0,.string x.house]) x:=⟨[.string x.x.name,.int .i64 x.x.house,.int .i64 x.x.grows.low,.int .i64 x.x.grows.high,c0,.string x.house],⟨[.string x.x.name]++([.int .i64 x.x.house]++(([.int .i64 x.x.grows.low]++[.int .i64 x.x.grows.high])++[c0])),[.string x.house],rfl,⟨[.string x.x.name],[.int .i64 x.x.house]++(([.int .i64 x.x.grows.low]++[.int .i64 x.x.grows.high])++[c0]),rfl,⟨rfl,h0⟩,⟨[.int .i64 x.x.house],([.int .i64 x.x.grows.low]++[.int .i64 x.x.grows.high])++[c0],rfl,⟨rfl,h1⟩,⟨[.int .i64 x.x.grows.low]++[.int .i64 x.x.grows.high],[c0],rfl,⟨[.int .i64 x.x.grows.low],[.int .i64 x.x.grows.high],rfl,⟨rfl,h2⟩,⟨rfl,h3⟩⟩,⟨c0,rfl,Cs.1 h4⟩⟩⟩⟩,⟨rfl,h5⟩⟩,rfl⟩
structure ESale where
 grams:Int
 sellers:List ByteArray
deriving DecidableEq
instance:Dat ESale:=.iso fun x=>(x.grams,x.sellers)
theorem ESale.f_grams:Fld ESale Int 0 ESale.grams:=⟨fun ρ cs x=>(Fld.fst:Fld ((Int)×(List ByteArray)) Int 0 _).at_ ρ cs (x.grams,x.sellers)⟩
theorem ESale.f_sellers:Fld ESale (List ByteArray) 1 ESale.sellers:=⟨fun ρ cs x=>((.snd Fld.self):Fld ((Int)×(List ByteArray)) (List ByteArray) 1 _).at_ ρ cs (x.grams,x.sellers)⟩
theorem ESale.shut{ρ}{x:ESale}{c0}(h0:I64 x.grams)(h1:Val ρ c0 x.sellers):Val ρ (.agg #[.int .i64 x.grams,c0]) x:=⟨[.int .i64 x.grams,c0],⟨[.int .i64 x.grams],[c0],rfl,⟨rfl,h0⟩,⟨c0,rfl,Cs.1 h1⟩⟩,rfl⟩
theorem Btt:GoTy Tryz.prog 262 ELab:=⟨⟨_,Bxv,rfl⟩,⟨_,Ab Bzw,rfl⟩⟩
theorem Btu:GoTy Tryz.prog 264 EKind:=⟨⟨_,Bxx,rfl⟩,⟨_,Ab Bzx,rfl⟩⟩
theorem Btr:GoTy Tryz.prog 256 ETest:=⟨⟨_,Bxz,rfl⟩,⟨_,Ab Bzt,rfl⟩⟩
theorem Btv:GoTy Tryz.prog 266 EName:=⟨⟨_,Bxw,rfl⟩,⟨_,Ab Bzy,rfl⟩⟩
theorem Bts:GoTy Tryz.prog 260 ESale:=⟨⟨_,Bye,rfl⟩,⟨_,Ab Bzv,rfl⟩⟩
def Buj:List Value:=[.int .i64 0]
theorem Abd:Fw Tryz.prog 262 (.agg #[.int .i64 0]):=⟨_,Ab Bzw,rfl⟩
def Buk:List Value:=[.string (ByteArray.mk #[])]
theorem Adq:Fw Tryz.prog 264 (.agg #[.string (ByteArray.mk #[])]):=⟨_,Ab Bzx,rfl⟩
def Bug:List Value:=[.string (ByteArray.mk #[]),.slice none 0 0,.bool false]
theorem Ahn:Fw Tryz.prog 256 (.agg #[.string (ByteArray.mk #[]),.slice none 0 0,.bool false]):=⟨_,Ab Bzt,rfl⟩
def Bly:List Value:=[.bool false,.string (ByteArray.mk #[])]
theorem Aou:Fw Tryz.prog 266 (.agg #[.bool false,.string (ByteArray.mk #[])]):=⟨_,Ab Bzy,rfl⟩
def Buh:List Value:=[.string (ByteArray.mk #[]),.int .i64 0,.int .i64 0,.int .i64 0,.slice none 0 0,.string (ByteArray.mk #[])]
theorem Auj:Fw Tryz.prog 258 (.agg #[.string (ByteArray.mk #[]),.int .i64 0,.int .i64 0,.int .i64 0,.slice none 0 0,.string (ByteArray.mk #[])]):=⟨_,Ab Bzu,rfl⟩
def Bui:List Value:=[.int .i64 0,.slice none 0 0]
theorem Bbi:Fw Tryz.prog 260 (.agg #[.int .i64 0,.slice none 0 0]):=⟨_,Ab Bzv,rfl⟩
end
section
open Go
def EntV(ρ:Ro)(v:Value):Ent→Prop
 | .lab n=>∃w,v = .iface 262 w∧Val ρ w (⟨n⟩:ELab)
 | .kind s=>∃w,v = .iface 264 w∧Val ρ w (⟨s⟩:EKind)
 | .test t=>∃w,v = .iface 256 w∧Val ρ w (⟨t⟩:ETest)
 | .go=>v = .iface 172 (.agg #[])
 | .name mk s=>∃w,v = .iface 266 w∧Val ρ w (⟨mk,s⟩:EName)
 | .field x h=>∃w,v = .iface 258 w∧Val ρ w (⟨x,h⟩:EField)
 | .sale n l=>∃w,v = .iface 260 w∧Val ρ w (⟨n,l⟩:ESale)
theorem EntV.mono{ρ ρ'}(h:Ro.le ρ ρ'){v e}(he:EntV ρ v e):EntV ρ' v e:=by
 cases e<;>first|exact he|(obtain⟨w,a,b⟩:=he;exact⟨w,a,b.mono h⟩)
theorem EntV.ifc{ρ v e}(he:EntV ρ v e):∃t w,v = .iface t w:=by
 cases e<;>first|exact⟨_,_,he⟩|(obtain⟨w,a,b⟩:=he;exact⟨_,w,a⟩)
theorem Bma:Fw Tryz.prog 172 (.agg #[]):=⟨_,Ab Tryz.typeInfo172,rfl⟩
theorem Bft{s L}(hL:L=bw (Hn s)):0<L.length:=by
 rw[hL]
 cases hs:Hn s with
 | nil=>exact absurd hs Wt
 | cons u f=>simp[bw]
theorem Bgz{x}:((bs x).toList==(bs ([]:List UInt8)).toList)=x.isEmpty:=by
 rw[Vw,Vw]
 cases x<;>rfl
theorem Akr{s L}(hL:L=bw (Hn s)):decide (findI L (bs [])≥0)=Na s:=by
 have h:=Yl (l:=L) (s:=bs [])
 have e:inL L (bs [])=Na s:=by
  subst hL
  unfold inL Na bw
  rw[List.any_map]
  congr 1
  funext x
  exact Bool.beq_comm.trans Bgz
 rw[e]at h
 cases hb:Na s with
 | true=>exact Oe (h.2 hb)
 | false=>exact Jw fun hh=>by rw[h.1 hh]at hb;cases hb
theorem Bel{s}(h:Na s=true):Acy s=none:=by unfold Acy;rw[if_pos h]
theorem Bsa{s L a}(hL:L=bw (Hn s))(he:Na s=false)(h0:L[0]?=some a):Acy s=Qk a.data.toList (L.drop 1):=by
 unfold Acy
 rw[if_neg (by rw[he];simp)]
 subst hL
 cases hs:Hn s with
 | nil=>exact absurd hs Wt
 | cons u f =>
  rw[hs]at h0
  obtain rfl:bs u=a:=by simpa[bw]using h0
  rfl
section
variable{u:List UInt8}{ws:List ByteArray}{a b:ByteArray}
theorem Bvh(h:u=Fv)(hl:ws.length=0):Qk u ws=some .go:=by unfold Qk;rw[if_pos h,if_pos hl]
theorem Bsd(h:u=Fv)(hl:¬ws.length=0):Qk u ws=none:=by unfold Qk;rw[if_pos h,if_neg hl]
theorem Bvi(h1:¬u=Fv)(h:u=Pt∨u=Ot)(hl:ws.length=0):Qk u ws=none:=by unfold Qk;rw[if_neg h1,if_pos h,ws0 hl];rfl
theorem Bse(h1:¬u=Fv)(h:u=Pt∨u=Ot)(hv:Hy Qi (wl (ws.drop 1))=none):Qk u ws=none:=by
 unfold Qk;rw[if_neg h1,if_pos h,hv];cases ws[0]?<;>rfl
theorem Bwk{x}(h1:¬u=Fv)(h:u=Pt∨u=Ot)(h0:ws[0]?=some a)(hv:Hy Qi (wl (ws.drop 1))=some x):Qk u ws=some (.test ⟨a,x,u==Ot⟩):=by
 unfold Qk;rw[if_neg h1,if_pos h,hv,h0]
theorem Bvg(h1:¬u=Fv)(h2:¬(u=Pt∨u=Ot))(h:u=Im)(hl:ws.length≤2):Qk u ws=none:=by unfold Qk;rw[if_neg h1,if_neg h2,if_pos h,if_pos hl]
theorem Bsb(h1:¬u=Fv)(h2:¬(u=Pt∨u=Ot))(h:u=Im)(hl:¬ws.length≤2)(hv:Hy Ii (wl (ws.drop 2))=none):Qk u ws=none:=by
 unfold Qk;rw[if_neg h1,if_neg h2,if_pos h,if_neg hl,hv];cases ws[0]?<;>cases ws[1]?<;>rfl
theorem Bwj{r x}(h1:¬u=Fv)(h2:¬(u=Pt∨u=Ot))(h:u=Im)(hl:¬ws.length≤2)(h0:ws[0]?=some a)(h3:ws[1]?=some b)(hv:Hy Ii (wl (ws.drop 2))=some r)(hr:r[0]?=some x):Qk u ws=some (.field ⟨a,0,x,r.drop 1⟩ b):=by
 unfold Qk;rw[if_neg h1,if_neg h2,if_pos h,if_neg hl,hv,h0,h3];simp only[hr]
/-- None of the words that come first. -/
def Aov(u:List UInt8):Prop:=¬u=Fv∧¬(u=Pt∨u=Ot)∧¬u=Im
theorem Aze(h:Aov u):Qk u ws=(match ws[0]? with
  | none=>none
  | some a=>if u=Od∧Gn a.data.toList=true then some (.sale (De a.data.toList) (ws.drop 1))
   else if 1<ws.length then none
   else if u=wLab∧Gn a.data.toList=true then some (.lab (De a.data.toList))
   else if u=Pj then some (.kind a)
   else if u=Md∨u=Ob then some (.name (u==Ob) a) else none):=by unfold Qk;rw[if_neg h.1,if_neg h.2.1,if_neg h.2.2]<;>rfl
theorem Bwi(h:Aov u)(hl:ws.length=0):Qk u ws=none:=by rw[Aze h,ws0 hl];rfl
theorem Bnv(h:Aov u)(h1:u=Od)(h0:ws[0]?=some a)(hn:Gn a.data.toList=true):Qk u ws=some (.sale (De a.data.toList) (ws.drop 1)):=by rw[Aze h,h0];simp only;rw[if_pos ⟨h1,hn⟩]
theorem Atf(h : Aov u)(h0 : ws[0]?=some a)(hs : ¬u=Od ∨ Gn a.data.toList=false) : Qk u ws=(if 1<ws.length then none
      else if u=wLab∧Gn a.data.toList=true then some (.lab (De a.data.toList))
      else if u=Pj then some (.kind a)
      else if u=Md∨u=Ob then some (.name (u==Ob) a) else none):=by
  rw[Aze h,h0];simp only;rw[if_neg];rintro⟨c,b⟩
  rcases hs with h4|h4
  · exact h4 c
  · rw[h4]at b;cases b
theorem Bns(h:Aov u)(h0:ws[0]?=some a)(hs:¬u=Od∨Gn a.data.toList=false)(hl:1<ws.length):Qk u ws=none:=by rw[Atf h h0 hs,if_pos hl]
theorem Bsc(h:Aov u)(h0:ws[0]?=some a)(hs:¬u=Od∨Gn a.data.toList=false)(hl:¬1<ws.length)(h1:u=wLab)(hn:Gn a.data.toList=true):Qk u ws=some (.lab (De a.data.toList)):=by rw[Atf h h0 hs,if_neg hl,if_pos ⟨h1,hn⟩]
theorem Ate(h : Aov u)(h0 : ws[0]?=some a)(hs : ¬u=Od ∨ Gn a.data.toList=false)(hl : ¬1<ws.length)(h1 : ¬u=wLab ∨ Gn a.data.toList=false) : Qk u ws=(if u=Pj then some (.kind a)
      else if u=Md∨u=Ob then some (.name (u==Ob) a) else none):=by
  rw[Atf h h0 hs,if_neg hl,if_neg];rintro⟨c,b⟩
  rcases h1 with h4|h4
  · exact h4 c
  · rw[h4]at b;cases b
theorem Bnr(h:Aov u)(h0:ws[0]?=some a)(hs:¬u=Od∨Gn a.data.toList=false)(hl:¬1<ws.length)(h1:¬u=wLab∨Gn a.data.toList=false)(h2:u=Pj):Qk u ws=some (.kind a):=by rw[Ate h h0 hs hl h1,if_pos h2]
theorem Bnt(h:Aov u)(h0:ws[0]?=some a)(hs:¬u=Od∨Gn a.data.toList=false)(hl:¬1<ws.length)(h1:¬u=wLab∨Gn a.data.toList=false)(h2:¬u=Pj)(h3:u=Md∨u=Ob):Qk u ws=some (.name (u==Ob) a):=by rw[Ate h h0 hs hl h1,if_neg h2,if_pos h3]
theorem Bnu(h:Aov u)(h0:ws[0]?=some a)(hs:¬u=Od∨Gn a.data.toList=false)(hl:¬1<ws.length)(h1:¬u=wLab∨Gn a.data.toList=false)(h2:¬u=Pj)(h3:¬(u=Md∨u=Ob)):Qk u ws=none:=by rw[Ate h h0 hs hl h1,if_neg h2,if_neg h3]
end
end
section
open Go
variable{mn:Bool}{X:Frame→List Frame→Ro→Own→Cy→Prop}{ρ:Ro}{σ:Own}
theorem Bhh{p L}(hL:L=bw (Hn p))(hb:p.length≤60000):CallsH (CX mn X) 142 #[.string (bs p),.string (bs ([32]:List UInt8))] ρ σ (fun w ρ' σ'=>Ro.le ρ ρ'∧σ'=σ∧Val ρ' w (L:List ByteArray)):=by
 rw[hL];exact Bmw hb
theorem Blo{s L}(hL:L=bw (Hn s)):L.length≤s.length+1∧∀w∈L,w.data.toList.length≤s.length:=by
 subst hL
 have h:=Yj (s:=s) (acc:=[])
 refine⟨by have:=h.1;unfold bw;rw[Xp];exact this,fun w hw=>?_⟩
 obtain⟨x,hx,rfl⟩:=Sz.1 hw
 have:=h.2 x hx
 rw[Bmj]
 simpa using this
theorem Beh{s}(hg:GlobE ρ)(hb:s.length≤60000):CallsH (CX mn X) 119 #[.string (bs s)] ρ σ (fun w ρ' σ'=>Ro.le ρ ρ'∧σ'=σ∧((Acy s=none∧w = .nilIface)∨∃(e:Ent) (v:Value),Acy s=some e∧w=v∧EntV ρ' v e)):=by
 obtain⟨L,hL⟩:∃L,L=bw (Hn s):=⟨_,rfl⟩
 have hLp:=Bft hL
 obtain⟨g3,I⟩:=Blo hL
 refine Bq 131 [2] Tryz.func119 rfl fun Q g fx=>w_q rfl rfl fun K1 k1=>Au .nilIface (Dr k1 fun K2 k2=>Av (.string (bs s)) (Arv (Fj (Bhh (p:=s) hL hb) Tryz.func142 ⟨rfl,rfl,trivial⟩ fun v3 e2 gn c9=>?_)))
 obtain⟨f,s3,r3⟩:=c9
 replace s3:=s3.symm;subst s3
 replace hg:=GlobE.mono f hg
 refine Au v3 (Asa k2 fun K4 k4=>Px (Bw 0 (zT 1 6) rfl (Ah rfl) ?_))
 obtain⟨a,al⟩:=Ed (xs:=L) (i:=0) (by first|omega|(simp only[lZ5]at *;omega))
 have hul:=I _ (lZ8 al)
 refine Cu 1 (zT 2 5) rfl (Em 0 Bwy ty9 r3 al) fun v5 r5=>?_
 have g7:a.data.toList.length<2^60:=At.slen r5
 have ft:=At.slen r5
 refine Bw 2 (zT 3 4) rfl (Fd ty9 r5) (Bw 3 (zT 4 3) rfl (Ah rfl) (Cu 4 (zT 5 2) rfl (Ack 1 Bwy ty9 rfl r3 (q:=1) rfl rfl (by first|omega|(simp only[lZ5]at *;omega))) fun U d=>Dp 5 (zT 6 1) rfl (Cp rfl) (Dp 6 (zT 7 0) rfl (Cp rfl) (Ec rfl (kk k4 ?_)))))
 refine Gw fun K9 e3 k9 cc=>Av v3 (Arv (Ce (Bml (s:=bs []) r3) Tryz.func143 ?_))
 refine l_k cc (Cw (fun a5=>?_) (fun a5=>?_))
 ·have ap:Na s=true:=by rw[←Akr hL];exact a5
  refine Cr fun e8 ch=>Au .nilIface (l_k ch (Aq (g ⟨f,rfl,.inl ⟨Bel ap,rfl⟩⟩)))
 have ap:Na s=false:=by rw[←Akr hL];exact a5
 have n:=Bsa hL ap al
 refine Al (kk k9 ?_)
 refine Gw fun e9 ea ci cj=>Av (.string a) (l_k cj (Ao (Cr fun eb ck=>l_v (Tw) (Au _ (l_k ck (Cw (fun a7=>?_) (fun a7=>?_)))))))
 ·have j:=Jr a7
  refine Gw fun ec ed cl cm=>Av U ?_
  have ff:=Can d
  refine l_v (Pc (el:=9) Bwy d) (l_v (Hs) (l_k cm (Cw (fun a8=>?_) (fun a8=>?_))))
  ·have dl:=Jr a8
   refine Cr fun ef cn=>l_v (Dn (ns:=[]) (vs:=[]) (zc:=[]) (cs:=[]) Byx Bma rfl trivial (EvB.map trivial) rfl) (l_v (Jd Byx rfl rfl) (Au _ (l_k cn (Aq (g ⟨f,rfl,.inr ⟨_,_,n.trans (Bvh (show a.data.toList=Fv from j) (by simp only[lZ5]at *;omega)),rfl,rfl⟩⟩)))))
  have dl:=Jq a8
  refine Al (kk cl ?_)
  refine Cr fun eg co=>Au .nilIface (l_k co (Aq (g ⟨f,rfl,.inl ⟨n.trans (Bsd (show a.data.toList=Fv from j) (by simp only[lZ5]at *;omega)),rfl⟩⟩)))
 have j:=Jq a7
 refine Ai fun br cp=>?_
 have bg:∀(te:Bool) (ee:Env),(ee 4=(.string a))∧(ee 5=U)∧(ee 21=(.string a))∧(ee 29=(.bool te))∧(te=true→a.data.toList=Pt∨a.data.toList=Ot)∧(te=false→¬(a.data.toList=Pt∨a.data.toList=Ot))∧True→br ee [] e2 σ:=by
  rintro te fa ⟨Z,u,c0,c1,ax,B,_⟩
  apply cp
  refine Bu c1 (fun t=>?_) (fun t=>?_)
  ·refine Gw fun eh ei bc cq=>l_v (Ah u) ?_
   have fg:=Can d
   refine l_v (Pc (el:=9) Bwy d) (l_v (Rd) (l_k cq (Cw (fun a9=>?_) (fun a9=>?_))))
   ·have dm:=lZ2 a9
    refine Cr fun ej bd=>l_v (Ah u) (Arw (Ack 1 Bwy ty9 rfl d (q:=1) rfl rfl (by first|omega|(simp only[lZ5]at *;omega))) fun gc ds=>Arv (Fj (Bnc hg ds (by simp only[lZ5]at *;omega) (fun w h=>Tl (I w (Apj (Apj h))) (by omega))) Tryz.func144 ⟨rfl,trivial⟩ fun gk bp go an=>?_))
    obtain⟨av,an⟩:=an
    replace d:=Val.mono av d
    rcases an with⟨N,⟨af,ar⟩|⟨a3,C,af,ar,ba⟩⟩
    ·replace N:=N.symm;subst N ar
     refine Av (.tuple #[nS,bF]) (l_v (Bp nS) (l_v (Bp bF) (Au nS (Au bF (Dr bd fun ek cr=>Av bF (l_k cr (Dy rfl (Al (kk bc ?_)))))))))
     refine Cr fun em ct=>Au .nilIface (l_k ct (Aq (g ⟨Cam f av,rfl,.inl ⟨n.trans (Bse (show ¬a.data.toList=Fv from j) (ax t) af),rfl⟩⟩)))
    replace N:=N.symm;subst N ar
    refine Av (.tuple #[C,bT]) (l_v (Bp _) (l_v (Bp bT) (Au _ (Au bT (Dr bd fun en cu=>Av bT (l_k cu (Et (Cr fun eo cv=>l_v (Ah u) ?_))))))))
    obtain⟨l,aj⟩:=Ed (xs:=L.drop 1) (i:=0) (by first|omega|(simp only[lZ5]at *;omega))
    have fz:=I _ (Apj (lZ8 aj))
    refine Arw (Em 0 Bwy ty9 d aj) fun gd b4=>?_
    have fh:l.data.toList.length<2^60:=At.slen b4
    have fq:=At.slen b4
    refine l_v (Fd ty9 b4) (Av C (l_v (Ah Z) (l_v (Tw) ?_)))
    have g9:Val bp (.agg #[.string l,C,.bool (a.data.toList==bZ1)]) (⟨l,a3,a.data.toList==bZ1⟩:FTest):=FTest.shut (x:=(⟨l,a3,a.data.toList==bZ1⟩:FTest)) (show (l).size<2^60 by omega) ba
    refine l_v (Dn (ns:=[1,1,1]) (vs:=[(0,(.string l)),(1,C),(2,(.bool (a.data.toList==bZ1)))]) (zc:=Aag) (cs:=[.string l,C,.bool (a.data.toList==bZ1)]) Bxh Ws rfl ⟨ty9.2,Afp.2,ty4.2,trivial⟩ (EvB.map ⟨⟨rfl,rfl⟩,⟨rfl,rfl⟩,⟨rfl,rfl⟩,trivial⟩) ((Be (cs:=[.string l]) rfl rfl nL).trans ((Be (cs:=[C]) (Val.cells_l ba) rfl nL).trans ((Be (cs:=[.bool (a.data.toList==bZ1)]) rfl rfl nL).trans rfl)))) ?_
    have dt:Val bp (.agg #[.string l,C,.bool (a.data.toList==bZ1)]) (⟨(⟨l,a3,a.data.toList==bZ1⟩:FTest)⟩:ETest):=ETest.shut (x:=(⟨(⟨l,a3,a.data.toList==bZ1⟩:FTest)⟩:ETest)) (show (l).size<2^60 by omega) ba
    refine l_v (Dn (ns:=[3]) (vs:=[(0,(.agg #[.string l,C,.bool (a.data.toList==bZ1)]))]) (zc:=Bug) (cs:=[.string l,C,.bool (a.data.toList==bZ1)]) Bxz Ahn rfl ⟨Um.2,trivial⟩ (EvB.map ⟨⟨rfl,rfl⟩,trivial⟩) ((Be (cs:=[.string l,C,.bool (a.data.toList==bZ1)]) rfl rfl nL).trans rfl)) (l_v (Jd Bxz rfl rfl) (Au _ (l_k cv (Aq (g ⟨Cam f av,rfl,.inr ⟨_,_,n.trans (Bwk (show ¬a.data.toList=Fv from j) (ax t) aj af),rfl,⟨_,rfl,dt⟩⟩⟩)))))
   have dm:=lZ1 a9
   refine Al (kk bc ?_)
   refine Cr fun ep cw=>Au .nilIface (l_k cw (Aq (g ⟨f,rfl,.inl ⟨n.trans (Bvi (show ¬a.data.toList=Fv from j) (ax t) (by simp only[lZ5]at *;omega)),rfl⟩⟩)))
  refine Cr fun eq cx=>l_v (Sp c0 rfl) (Au _ (l_k cx (Cw (fun aa=>?_) (fun aa=>?_))))
  ·have y:=Jr aa
   refine Gw fun er es be cy=>l_v (Ah u) ?_
   have fi:=Can d
   refine l_v (Pc (el:=9) Bwy d) (l_v (Rd) (l_k cy (Cw (fun ab=>?_) (fun ab=>?_))))
   ·have dn:=lZ2 ab
    refine Cr fun et bf=>l_v (Ah u) (Arw (Ack 2 Bwy ty9 rfl d (q:=2) rfl rfl (by first|omega|(simp only[lZ5]at *;omega))) fun ge du=>Arv (Fj (Bhj hg du (by simp only[lZ5]at *;omega) (fun w h=>Tl (I w (Apj (Apj h))) (by omega))) Tryz.func145 ⟨rfl,trivial⟩ fun gl bq gp ao=>?_))
    obtain⟨aw,ao⟩:=ao
    replace d:=Val.mono aw d
    rcases ao with⟨O,⟨Y,au⟩|⟨P,e1,Y,au,bn⟩⟩
    ·replace O:=O.symm;subst O au
     refine Av (.tuple #[nS,bF]) (l_v (Bp nS) (l_v (Bp bF) (Au nS (Au bF (Dr bf fun eu cz=>Av bF (l_k cz (Dy rfl (Al (kk be ?_)))))))))
     refine Cr fun ev d0=>Au .nilIface (l_k d0 (Aq (g ⟨Cam f aw,rfl,.inl ⟨n.trans (Bsb (show ¬a.data.toList=Fv from j) (B t) (show a.data.toList=Im from y) (by simp only[lZ5]at *;omega) Y),rfl⟩⟩)))
    replace O:=O.symm;subst O au
    have fy:0<P.length:=Ark Y (by simp only[lZ5]at *;omega)
    refine Av (.tuple #[e1,bT]) (l_v (Bp _) (l_v (Bp bT) (Au _ (Au bT (Dr bf fun ew d1=>Av bT (l_k d1 (Et (Ai fun ex d2=>Px (Bw 0 Aof rfl (Ah u) ?_)))))))))
    obtain⟨m,ak⟩:=Ed (xs:=L.drop 1) (i:=0) (by first|omega|(simp only[lZ5]at *;omega))
    have g0:=I _ (Apj (lZ8 ak))
    refine Cu 1 Aon rfl (Em 0 Bwy ty9 d ak) fun gf b5=>?_
    have fj:m.data.toList.length<2^60:=At.slen b5
    have fr:=At.slen b5
    refine Bw 2 Aqg rfl (Fd ty9 b5) (Bw 3 Aqh rfl (Ah rfl) ?_)
    obtain⟨c,bb⟩:=Ed (xs:=P) (i:=0) (by first|omega|(simp only[lZ5]at *;omega))
    refine Cu 4 Aqi rfl (Em 0 Bxi Mx bn bb) fun gg dv=>Cu 5 (zT 6 9) rfl (Gz Mx dv) fun bo dw=>Bw 6 (zT 7 8) rfl (Ah rfl) (Cu 7 (zT 8 7) rfl (Ack 1 Bxi Mx rfl bn (q:=1) rfl rfl (by first|omega|(simp only[lZ5]at *;omega))) fun F b6=>?_)
    obtain⟨bx,⟨g4,g5⟩,⟨g6,g8⟩⟩:=Span.open_ dw
    have bz:bo.cells=[iV c.low,iV c.high].toArray:=by rw[bx];rfl
    have ga:Val bq (.agg #[.string m,iV 0,iV c.low,iV c.high,F]) (⟨m,0,⟨c.low,c.high⟩,P.drop 1⟩:FField):=FField.shut (x:=(⟨m,0,⟨c.low,c.high⟩,P.drop 1⟩:FField)) (show (m).size<2^60 by omega) (iC 0) (iC c.low) (iC c.high) b6
    refine Bw 8 (zT 9 6) rfl (Dn (ns:=[1,1,2,1]) (vs:=[(0,(.string m)),(2,bo),(3,F)]) (zc:=Aah) (cs:=[.string m,iV 0,iV c.low,iV c.high,F]) Bxf Xu rfl ⟨ty9.2,ty3.2,Mx.2,Uo.2,trivial⟩ (EvB.map ⟨⟨rfl,rfl⟩,⟨rfl,rfl⟩,⟨rfl,rfl⟩,trivial⟩) ((Be (cs:=[.string m]) rfl rfl nL).trans ((Be (cs:=[iV c.low,iV c.high]) bz rfl nL).trans ((Be (cs:=[F]) (Val.cells_l b6) rfl nL).trans rfl)))) (Dp 9 Aog rfl (Ah u) ?_)
    obtain⟨D,am⟩:=Ed (xs:=L.drop 1) (i:=1) (by first|omega|(simp only[lZ5]at *;omega))
    have g1:=I _ (Apj (lZ8 am))
    refine Jm 10 Aoh rfl (Em 1 Bwy ty9 d am) fun gh b7=>?_
    have fk:D.data.toList.length<2^60:=At.slen b7
    have fs:=At.slen b7
    refine Dp 11 Aoi rfl (Fd ty9 b7) ?_
    have dx:Val bq (.agg #[.string m,iV 0,iV c.low,iV c.high,F,.string D]) (⟨(⟨m,0,⟨c.low,c.high⟩,P.drop 1⟩:FField),D⟩:EField):=EField.shut (x:=(⟨(⟨m,0,⟨c.low,c.high⟩,P.drop 1⟩:FField),D⟩:EField)) (show (m).size<2^60 by omega) (iC 0) (iC c.low) (iC c.high) b6 (show (D).size<2^60 by omega)
    refine Dp 12 Aok rfl (Dn (ns:=[5,1]) (vs:=[(0,(.agg #[.string m,iV 0,iV c.low,iV c.high,F])),(1,(.string D))]) (zc:=Buh) (cs:=[.string m,iV 0,iV c.low,iV c.high,F,.string D]) Bya Auj rfl ⟨Lo.2,ty9.2,trivial⟩ (EvB.map ⟨⟨rfl,rfl⟩,⟨rfl,rfl⟩,trivial⟩) ((Be (cs:=[.string m,iV 0,iV c.low,iV c.high,F]) rfl rfl nL).trans ((Be (cs:=[.string D]) rfl rfl nL).trans rfl))) (Dp 13 Aol rfl (Jd Bya rfl rfl) (Dp 14 Aom rfl (Cp rfl) (Ec rfl (kk d2 ?_))))
    refine Aq (g ⟨Cam f aw,rfl,.inr ⟨_,_,n.trans (Bwj (show ¬a.data.toList=Fv from j) (B t) (show a.data.toList=Im from y) (by simp only[lZ5]at *;omega) ak am Y bb),rfl,⟨_,rfl,dx⟩⟩⟩)
   have dn:=lZ1 ab
   refine Al (kk be ?_)
   refine Cr fun ey d3=>Au .nilIface (l_k d3 (Aq (g ⟨f,rfl,.inl ⟨n.trans (Bvg (show ¬a.data.toList=Fv from j) (B t) (show a.data.toList=Im from y) (by simp only[lZ5]at *;omega)),rfl⟩⟩)))
  have y:=Jq aa
  refine Al (kk ci ?_)
  refine Gw fun ez f0 d4 d5=>l_v (Ah u) ?_
  have fl:=Can d
  refine l_v (Pc (el:=9) Bwy d) (l_v (Hs) (l_k d5 (Cw (fun ac=>?_) (fun ac=>?_))))
  ·have dp:=Jr ac
   refine Cr fun f1 d6=>Au .nilIface (l_k d6 (Aq (g ⟨f,rfl,.inl ⟨n.trans (Bwi ⟨show ¬a.data.toList=Fv from j,B t,show ¬a.data.toList=Im from y⟩ (by simp only[lZ5]at *;omega)),rfl⟩⟩)))
  have dp:=Jq ac
  refine Al (kk d4 ?_)
  refine Cr fun f2 d7=>l_v (Ah u) ?_
  obtain⟨b,z⟩:=Ed (xs:=L.drop 1) (i:=0) (by first|omega|(simp only[lZ5]at *;omega))
  have g2:=I _ (Apj (lZ8 z))
  refine Arw (Em 0 Bwy ty9 d z) fun gi b8=>?_
  have fm:b.data.toList.length<2^60:=At.slen b8
  have fu:=At.slen b8
  refine l_v (Fd ty9 b8) (Arv (Fj (Ady (s:=b.data.toList) (by omega)) Bzh ⟨rfl,trivial⟩ fun gm K gq ca=>?_))
  obtain⟨J,aq,cb⟩:=ca
  replace aq:=aq.symm;subst aq cb
  replace d:=Val.mono J d
  have fw:=Vo (s:=b.data.toList)
  refine Av (.tuple #[iV (De b.data.toList),.bool (Gn b.data.toList)]) (l_v (Bp _) (l_v (Bp _) (Au _ (Au _ (Asa d7 fun f3 d8=>Ao (Ai fun bt d9=>?_))))))
  have bh:∀(sl:Bool) (ee:Env),(ee 4=(.string a))∧(ee 5=U)∧(ee 10=(iV (De b.data.toList)))∧(ee 11=(.bool (Gn b.data.toList)))∧(ee 87=(.bool sl))∧(sl=true→a.data.toList=Od∧Gn b.data.toList=true)∧(sl=false→¬a.data.toList=Od∨Gn b.data.toList=false)∧True→bt ee [] K σ:=by
   rintro sl fb ⟨ah,a0,ag,c2,c3,bk,T,_⟩
   apply d9
   refine Bu c3 (fun E=>?_) (fun E=>?_)
   ·refine Cr fun f4 da=>l_v (Ah ag) (l_v (Ah a0) (Arw (Ack 1 Bwy ty9 rfl d (q:=1) rfl rfl (by first|omega|(simp only[lZ5]at *;omega))) fun a2 bm=>?_))
    have dy:Val K (.agg #[iV (De b.data.toList),a2]) (⟨De b.data.toList,((L.drop 1)).drop 1⟩:ESale):=ESale.shut (x:=(⟨De b.data.toList,((L.drop 1)).drop 1⟩:ESale)) (iC (De b.data.toList)) bm
    refine l_v (Dn (ns:=[1,1]) (vs:=[(0,(iV (De b.data.toList))),(1,a2)]) (zc:=Bui) (cs:=[iV (De b.data.toList),a2]) Bye Bbi rfl ⟨ty3.2,Hw.2,trivial⟩ (EvB.map ⟨⟨rfl,rfl⟩,⟨rfl,rfl⟩,trivial⟩) ((Be (cs:=[iV (De b.data.toList)]) rfl rfl nL).trans ((Be (cs:=[a2]) (Val.cells_l bm) rfl nL).trans rfl))) (l_v (Jd Bye rfl rfl) (Au _ (l_k da (Aq (g ⟨Cam f J,rfl,.inr ⟨_,_,n.trans (Bnv ⟨show ¬a.data.toList=Fv from j,B t,show ¬a.data.toList=Im from y⟩ (bk E).1 z (bk E).2),rfl,⟨_,rfl,dy⟩⟩⟩)))))
   refine Cr fun f5 db=>l_v (Ah a0) ?_
   have fn:=Can d
   refine l_v (Pc (el:=9) Bwy d) (l_v (Rd) (Au _ (l_k db (Cw (fun ad=>?_) (fun ad=>?_)))))
   ·have dq:=lZ2 ad
    refine Cr fun f6 dc=>Au .nilIface (l_k dc (Aq (g ⟨Cam f J,rfl,.inl ⟨n.trans (Bns ⟨show ¬a.data.toList=Fv from j,B t,show ¬a.data.toList=Im from y⟩ z (T E) (by simp only[lZ5]at *;omega)),rfl⟩⟩)))
   have dq:=lZ1 ad
   refine Ai fun bu dd=>?_
   have bi:∀(lb:Bool) (ee:Env),(ee 4=(.string a))∧(ee 5=U)∧(ee 10=(iV (De b.data.toList)))∧(ee 102=(.bool lb))∧(lb=true→a.data.toList=wLab∧Gn b.data.toList=true)∧(lb=false→¬a.data.toList=wLab∨Gn b.data.toList=false)∧True→bu ee [] K σ:=by
    rintro lb fc ⟨R,ai,c4,c5,bl,ay,_⟩
    apply dd
    refine Bu c5 (fun M=>?_) (fun M=>?_)
    ·refine Cr fun f7 de=>l_v (Ah c4) ?_
     have dz:Val K (.agg #[iV (De b.data.toList)]) (⟨De b.data.toList⟩:ELab):=ELab.shut (x:=(⟨De b.data.toList⟩:ELab)) (iC (De b.data.toList))
     refine l_v (Dn (ns:=[1]) (vs:=[(0,(iV (De b.data.toList)))]) (zc:=Buj) (cs:=[iV (De b.data.toList)]) Bxv Abd rfl ⟨ty3.2,trivial⟩ (EvB.map ⟨⟨rfl,rfl⟩,trivial⟩) ((Be (cs:=[iV (De b.data.toList)]) rfl rfl nL).trans rfl)) (l_v (Jd Bxv rfl rfl) (Au _ (l_k de (Aq (g ⟨Cam f J,rfl,.inr ⟨_,_,n.trans (Bsc ⟨show ¬a.data.toList=Fv from j,B t,show ¬a.data.toList=Im from y⟩ z (T E) (by simp only[lZ5]at *;omega) (bl M).1 (bl M).2),rfl,⟨_,rfl,dz⟩⟩⟩)))))
    refine Cr fun f8 df=>l_v (Ah R) (l_v (Tw) (Au _ (l_k df (Cw (fun ae=>?_) (fun ae=>?_)))))
    ·have a1:=Jr ae
     refine Cr fun f9 dh=>l_v (Ah ai) (Arw (Em 0 Bwy ty9 d z) fun gj b9=>?_)
     have fo:b.data.toList.length<2^60:=At.slen b9
     have fv:=At.slen b9
     refine l_v (Fd ty9 b9) ?_
     have e0:Val K (.agg #[.string b]) (⟨b⟩:EKind):=EKind.shut (x:=(⟨b⟩:EKind)) (show (b).size<2^60 by omega)
     refine l_v (Dn (ns:=[1]) (vs:=[(0,(.string b))]) (zc:=Buk) (cs:=[.string b]) Bxx Adq rfl ⟨ty9.2,trivial⟩ (EvB.map ⟨⟨rfl,rfl⟩,trivial⟩) ((Be (cs:=[.string b]) rfl rfl nL).trans rfl)) (l_v (Jd Bxx rfl rfl) (Au _ (l_k dh (Aq (g ⟨Cam f J,rfl,.inr ⟨_,_,n.trans (Bnr ⟨show ¬a.data.toList=Fv from j,B t,show ¬a.data.toList=Im from y⟩ z (T E) (by simp only[lZ5]at *;omega) (ay M) (show a.data.toList=Pj from a1)),rfl,⟨_,rfl,e0⟩⟩⟩)))))
    have a1:=Jq ae
    refine Ai fun bv di=>?_
    have bj:∀(hm:Bool) (ee:Env),(ee 4=(.string a))∧(ee 5=U)∧(ee 119=(.bool hm))∧(hm=true→a.data.toList=Md∨a.data.toList=Ob)∧(hm=false→¬(a.data.toList=Md∨a.data.toList=Ob))∧True→bv ee [] K σ:=by
     rintro hm fd ⟨c7,c8,c6,dj,dk,_⟩
     apply di
     refine Bu c6 (fun a4=>?_) (fun a4=>?_)
     ·refine Cr fun e4 cd=>l_v (Ah c7) (l_v (Tw) (l_v (Ah c8) (Arw (Em 0 Bwy ty9 d z) fun gb b3=>?_)))
      have fe:b.data.toList.length<2^60:=At.slen b3
      have fp:=At.slen b3
      refine l_v (Fd ty9 b3) ?_
      have dr:Val K (.agg #[.bool (a.data.toList==bZ5),.string b]) (⟨a.data.toList==bZ5,b⟩:EName):=EName.shut (x:=(⟨a.data.toList==bZ5,b⟩:EName)) (show (b).size<2^60 by omega)
      refine l_v (Dn (ns:=[1,1]) (vs:=[(0,(.bool (a.data.toList==bZ5))),(1,(.string b))]) (zc:=Bly) (cs:=[.bool (a.data.toList==bZ5),.string b]) Bxw Aou rfl ⟨ty4.2,ty9.2,trivial⟩ (EvB.map ⟨⟨rfl,rfl⟩,⟨rfl,rfl⟩,trivial⟩) ((Be (cs:=[.bool (a.data.toList==bZ5)]) rfl rfl nL).trans ((Be (cs:=[.string b]) rfl rfl nL).trans rfl))) (l_v (Jd Bxw rfl rfl) (Au _ (l_k cd (Aq (g ⟨Cam f J,rfl,.inr ⟨_,_,n.trans (Bnt ⟨show ¬a.data.toList=Fv from j,B t,show ¬a.data.toList=Im from y⟩ z (T E) (by simp only[lZ5]at *;omega) (ay M) (show ¬a.data.toList=Pj from a1) (dj a4)),rfl,⟨_,rfl,dr⟩⟩⟩)))))
     refine Al (kk d8 ?_)
     refine Cr fun e5 ce=>Au .nilIface (l_k ce (Aq (g ⟨Cam f J,rfl,.inl ⟨n.trans (Bnu ⟨show ¬a.data.toList=Fv from j,B t,show ¬a.data.toList=Im from y⟩ z (T E) (by simp only[lZ5]at *;omega) (ay M) (show ¬a.data.toList=Pj from a1) (dk a4)),rfl⟩⟩)))
    refine Cr fun e6 cf=>l_v (Ah R) (l_v (Tw) (Au _ (l_k cf (Cw (fun V=>?_) (fun V=>?_)))))
    ·have az:=Jr V
     refine Al (bj (a.data.toList==bZ4) _ ⟨R,ai,rfl,fun _=>.inl (show a.data.toList=Md from az),fun h=>absurd (V.symm.trans h) (by decide),trivial⟩)
    have az:=Jq V
    refine Bf (l_v (Ah R) (l_v (Tw) (Au _ (Ac ?_))))
    refine bj (a.data.toList==bZ5) _ ⟨R,ai,rfl,fun h=>.inr (show a.data.toList=Ob from eq_of_beq h),fun h k=>k.elim (show ¬a.data.toList=Md from az) (show ¬a.data.toList=Ob from Jq h),trivial⟩
   refine Bf (l_v (Ah ah) (l_v (Tw) (Av (.bool (a.data.toList==bZ6)) (Cn (a.data.toList==bZ6) (fun G=>?_) (fun G=>?_)))))
   ·have b0:=Jr G
    refine Aa (gYZ G) (Ah c2) (l_v (Es G (v:=.bool (Gn b.data.toList))) (Au _ (Ac ?_)))
    refine bi (Gn b.data.toList) _ ⟨ah,a0,ag,rfl,fun h=>⟨show a.data.toList=wLab from b0,h⟩,fun h=>.inr h,trivial⟩
   have b0:=Jq G
   refine Ap (gNZ G) (l_v (En G (v:=bF)) (Au bF (Ac ?_)))
   refine bi false _ ⟨ah,a0,ag,rfl,fun h=>absurd h (by decide),fun _=>.inl (show ¬a.data.toList=wLab from b0),trivial⟩
  refine Bf (l_v (Ah Z) (l_v (Tw) (Av (.bool (a.data.toList==bZ7)) (Cn (a.data.toList==bZ7) (fun H=>?_) (fun H=>?_)))))
  ·have b1:=Jr H
   refine Me _ (gYZ H) (l_v (Es H (v:=.bool (Gn b.data.toList))) (Au _ (Ac ?_)))
   refine bh (Gn b.data.toList) _ ⟨Z,u,rfl,rfl,rfl,fun h=>⟨show a.data.toList=Od from b1,h⟩,fun h=>.inr h,trivial⟩
  have b1:=Jq H
  refine Ap (gNZ H) (l_v (En H (v:=bF)) (Au bF (Ac ?_)))
  refine bh false _ ⟨Z,u,rfl,rfl,rfl,fun h=>absurd h (by decide),fun _=>.inl (show ¬a.data.toList=Od from b1),trivial⟩
 refine Cr fun e7 cg=>l_v (Tw) (Au _ (l_k cg (Cw (fun W=>?_) (fun W=>?_))))
 ·have b2:=Jr W
  refine Al (bg (a.data.toList==bZ9) _ ⟨rfl,rfl,rfl,rfl,fun _=>.inl (show a.data.toList=Pt from b2),fun h=>absurd (W.symm.trans h) (by decide),trivial⟩)
 have b2:=Jq W
 refine Bf (l_v (Tw) (Au _ (Ac ?_)))
 refine bg (a.data.toList==bZ1) _ ⟨rfl,rfl,rfl,rfl,fun h=>.inr (show a.data.toList=Ot from eq_of_beq h),fun h k=>k.elim (show ¬a.data.toList=Pt from b2) (show ¬a.data.toList=Ot from Jq h),trivial⟩
end
section
open Go
def Ads(ρ:Ro)(r:Nat)(p:PSt)(gr:Own):Prop:=∃(vk vt vh vm vf vs:Value) (gk gt gh gm gf gs:Own),gr=(r,Res.obj (.cells #[vk,.int .i64 p.l.most,vt,vh,vm,vf,vs,.int .i64 p.last] 101 (0,0)))::(gk++(gt++(gh++(gm++(gf++gs)))))∧I64 p.l.most∧I64 p.last∧Grow ρ 9 vk p.l.kinds gk∧Grow ρ 46 vt p.l.tests gt∧Grow ρ 9 vh p.m.houses gh∧Grow ρ 9 vm p.m.marks gm∧Grow ρ 51 vf p.m.fields gf∧Grow ρ 54 vs p.m.sales gs
theorem App{p x h}(hh:findI p.m.houses h<0):Iv p (.field x h) = .inl 6:=by
 simp only[Iv];rw[Aek (x:=h.data.toList) (by rw[Aho];exact hh)]
theorem Axk{p x h}(hh:¬findI p.m.houses h<0):Iv p (.field x h) = .inr ⟨p.l,⟨p.m.houses,p.m.marks,p.m.fields++[⟨x.name,findI p.m.houses h,x.grows,x.marks⟩],p.m.sales⟩,p.last⟩:=by
 simp only[Iv];rw[Ael (x:=h.data.toList) (by rw[Aho];exact hh)];rfl
theorem Atx{p n l}{i:Nat}{a}(ha:l[i]?=some a)(hh:findI p.m.houses a<0):Iv p (.sale n l) = .inl 6:=by
 simp only[Iv];rw[Po (Pw ha) (Aek (x:=a.data.toList) (by rw[Aho];exact hh))]
theorem Bao{p n l i r}(hi:i=l.length)(h:Hy (Nq p.m) ((wl l).take i)=some r):Iv p (.sale n l) = .inr ⟨p.l,⟨p.m.houses,p.m.marks,p.m.fields,p.m.sales++[⟨n,r⟩]⟩,p.last⟩:=by
 rw[hi,←Rt,Qa]at h
 simp only[Iv];rw[h]
theorem Azp{p:PSt}{l i a r}(h:Hy (Nq p.m) ((wl l).take i)=some r)(ha:l[i]?=some a)(hh:¬findI p.m.houses a<0):Hy (Nq p.m) ((wl l).take (i+1))=some (r++[findI p.m.houses a]) :=
 Vv h (Pw ha) (Ael (x:=a.data.toList) (by rw[Aho];exact hh))
end
section
open Go
variable{mn:Bool}{X:Frame→List Frame→Ro→Own→Cy→Prop}{ρ:Ro}{σ:Own}
theorem Auw{n vw}(rw_:Val ρ vw (⟨n⟩:ELab)):CallsH (CX mn X) 242 #[vw] ρ σ (rP ρ σ (iV 0)):=by
 refine Rq 3 [2] Tryz.func242 fun Q a g=>w_q rfl rfl fun e b=>Arv (Eb rfl fun h=>?_)
 refine Bb rw_ fun j d i=>Au (iV 0) (Dr b fun f c=>Au (iV 0) (l_k c (Aj (Cah d) (Aq (a (rT _ ?_))))))
 rfl
theorem Asx{s vw}(rw_:Val ρ vw (⟨s⟩:EKind)):CallsH (CX mn X) 243 #[vw] ρ σ (rP ρ σ (iV 1)):=by
 refine Rq 3 [2] Tryz.func243 fun Q a g=>w_q rfl rfl fun e b=>Arv (Eb rfl fun h=>?_)
 refine Bb rw_ fun j d i=>Au (iV 0) (Dr b fun f c=>Au (iV 1) (l_k c (Aj (Cah d) (Aq (a (rT _ ?_))))))
 rfl
theorem Ata{t vw}(rw_:Val ρ vw (⟨t⟩:ETest)):CallsH (CX mn X) 239 #[vw] ρ σ (rP ρ σ (iV 2)):=by
 refine Rq 3 [2] Tryz.func239 fun Q a g=>w_q rfl rfl fun e b=>Arv (Eb rfl fun h=>?_)
 refine Bb rw_ fun j d i=>Au (iV 0) (Dr b fun f c=>Au (iV 2) (l_k c (Aj (Cah d) (Aq (a (rT _ ?_))))))
 rfl
theorem Asy{mk s vw}(rw_:Val ρ vw (⟨mk,s⟩:EName)):CallsH (CX mn X) 244 #[vw] ρ σ (rP ρ σ (iV (if mk=true then 5 else 4))):=by
 refine Bq 5 [2] Tryz.func244 rfl fun Q b q=>w_q rfl rfl fun k d=>Arv (Eb rfl fun u=>?_)
 refine Bb rw_ fun w c i=>Au (iV 0) (Ds d fun l m e f=>Arw (Ba EName.f_mark Bxw rfl ty4 i) fun v j=>l_v (Nx ty4 rfl j) (l_k f (Cw (t:=mk) (fun a=>?_) (fun a=>?_))))
 ·refine Cr fun n g=>Au (iV 5) (l_k g (Aj (Cah c) (Aq (b (rT _ ?_)))))
  rw[a];rfl
 refine Al (kk e ?_)
 refine Cr fun p h=>Au (iV 4) (l_k h (Aj (Cah c) (Aq (b (rT _ ?_)))))
 rw[a];rfl
theorem Aox{x h vw}(rw_:Val ρ vw (⟨x,h⟩:EField)):CallsH (CX mn X) 240 #[vw] ρ σ (rP ρ σ (iV 6)):=by
 refine Rq 3 [2] Tryz.func240 fun Q a g=>w_q rfl rfl fun e b=>Arv (Eb rfl fun i=>?_)
 refine Bb rw_ fun k d j=>Au (iV 0) (Dr b fun f c=>Au (iV 6) (l_k c (Aj (Cah d) (Aq (a (rT _ ?_))))))
 rfl
theorem Asz{n l vw}(rw_:Val ρ vw (⟨n,l⟩:ESale)):CallsH (CX mn X) 241 #[vw] ρ σ (rP ρ σ (iV 7)):=by
 refine Rq 3 [2] Tryz.func241 fun Q a g=>w_q rfl rfl fun e b=>Arv (Eb rfl fun h=>?_)
 refine Bb rw_ fun j d i=>Au (iV 0) (Dr b fun f c=>Au (iV 7) (l_k c (Aj (Cah d) (Aq (a (rT _ ?_))))))
 rfl
theorem Akp  :CallsH (CX mn X) 90 #[.agg #[]] ρ σ (rP ρ σ (iV 3)):=by
 refine Rq 3 [2] Tryz.func90 fun Q a f=>w_q rfl rfl fun d b=>Arv (Eb rfl fun g=>?_)
 refine Au _ (Dr b fun e c=>Au (iV 3) (l_k c (Aj Cag (Aq (a (rT _ ?_))))))
 rfl
/-- A method called through an interface. -/
def Buq(C:Ctx)(v:Value)(name:String)(vs:List Value)(ρ:Ro)(σ:Own)(R:Value→Ro→Own→Prop):Prop :=
 ∃(t:TypeId) (w:Value) (f:FuncId) (fn:Func) (v':Value),v = .iface t w∧(∀Q:FuncId×Value→Own→Prop,Q (f,v') σ→wpS C.P ρ (method (C.P.types.size+Made.depth) t w name) σ Q)∧CallsH C f (v'::vs).toArray ρ σ R∧C.P.funcs[f]?=some fn∧(fn.name == "runtime.NumGoroutine")=false∧fn.body.isNone=false
theorem Bwc{C e ds ρ σ K rd dd ty pos af g x v name args tys vs R}(hi:Buq C v name vs ρ σ R)(hx:Af e x=v)(hv:EvL e args vs)(h:∀v ρ' σ',R v ρ' σ'→K v ds ρ' σ'):wpS C.P ρ (execOp (Af e) ⟨dd,.call ⟨.invoke x name,args.toArray,tys⟩,ty,pos,af,g⟩) σ (NextH C K rd ds ρ):=by
 obtain⟨t,w,f,fn,v',rfl,a,b,c,d,i⟩:=hi
 exact Bln a b c d i hx hv h
theorem Bnz{v e}(he:EntV ρ v e):Buq (CX mn X) v "crocus/fake.place" [] ρ σ (rP ρ σ (iV (Ib e))):=by
 cases e with
 | lab n =>
  obtain⟨w,rfl,hw⟩:=he
  exact⟨_,_,_,Tryz.f242,_,rfl,fun Q hQ=>Nr (Ab Bzw) rfl rfl rfl Bxv rfl hQ,Auw hw,Tryz.func242,rfl,rfl⟩
 | kind s =>
  obtain⟨w,rfl,hw⟩:=he
  exact⟨_,_,_,Tryz.f243,_,rfl,fun Q hQ=>Nr (Ab Bzx) rfl rfl rfl Bxx rfl hQ,Asx hw,Tryz.func243,rfl,rfl⟩
 | test t =>
  obtain⟨w,rfl,hw⟩:=he
  exact⟨_,_,_,Tryz.f239,_,rfl,fun Q hQ=>Nr (Ab Bzt) rfl rfl rfl Bxz rfl hQ,Ata hw,Tryz.func239,rfl,rfl⟩
 | name mk s =>
  obtain⟨w,rfl,hw⟩:=he
  exact⟨_,_,_,Tryz.f244,_,rfl,fun Q hQ=>Nr (Ab Bzy) rfl rfl rfl Bxw rfl hQ,Asy hw,Tryz.func244,rfl,rfl⟩
 | field x h =>
  obtain⟨w,rfl,hw⟩:=he
  exact⟨_,_,_,Tryz.f240,_,rfl,fun Q hQ=>Nr (Ab Bzu) rfl rfl rfl Bya rfl hQ,Aox hw,Tryz.func240,rfl,rfl⟩
 | sale n l =>
  obtain⟨w,rfl,hw⟩:=he
  exact⟨_,_,_,Tryz.f241,_,rfl,fun Q hQ=>Nr (Ab Bzv) rfl rfl rfl Bye rfl hQ,Asz hw,Tryz.func241,rfl,rfl⟩
 | go =>
  obtain rfl:=he
  exact⟨_,_,_,Tryz.f90,_,rfl,fun Q hQ=>Nr (Ab Tryz.typeInfo172) rfl rfl rfl Byx rfl hQ,Akp,Tryz.func90,rfl,rfl⟩
end
end Go.Proofs.YtninnkechkolnaaGreatDoor
