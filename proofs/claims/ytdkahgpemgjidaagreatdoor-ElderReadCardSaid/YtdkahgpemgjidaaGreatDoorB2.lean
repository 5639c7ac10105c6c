/- Part 2 of what all laws of layer 8 need: a logic of programs that start goroutines, and what the functions yield. -/
import Derived.Test.YtdkahgpemgjidaaGreatDoorB1
import Derived.Carry
import Derived.ChangeArms
import Derived.ChangeSame
import Derived.ChangeVars
import Derived.Conc.Holds
import Derived.Conc.LeavingOf
import Derived.Conc.Quits
import Derived.FnData
import Derived.KernelRfl
import Derived.LaidHandle
import Derived.LaidLaws
import Derived.LaidMore
import Derived.Lib.Bytealg
import Derived.OpenShut
import Derived.RowKit
import Derived.SevenTiedAt
import Derived.SizedLaws
import Derived.Stop.Joined
import Derived.Test.YtdkahgpemgjidaaGreatDoorCards
import Derived.Test.YtdkahgpemgjidaaGreatDoorRows
import Derived.Test.YtdkahgpemgjidaaGreatDoorTie
import Derived.WideShapes
set_option linter.unusedVariables false
set_option linter.unusedSimpArgs false
set_option maxRecDepth 100000
set_option maxHeartbeats 4000000
namespace Go.Proofs.YtdkahgpemgjidaaGreatDoor
section
open Go Go.Conc Go.RowKit
open Go.ConcN (sumTo sumTo_upd upd_ne upd_same)
section
variable{P:Program}{W0:World}{fr:Frame}{cs:List Frame}{ρ:Ro}{σ:Own}{c k r:Nat}{l:List WK}{B:List (Nat×Value)}{A0 S0:Nat→Prop}{mp:Option (Value×Bool)}
 {gs:Array Goroutine} {w:World} {t:Trace} {q:Nat→Nat}
/-- A leaver's step. -/
theorem PhN.leave{i n:Nat}{g g':Goroutine}(h:PhN P W0 fr cs ρ σ c k l B r A0 S0 mp gs w t q)(hi:gs[i]?=some g)(hi0:i≠0)(hil:∀x∈l,x.j=i→∃v ρw p,x.st = .sent v ρw p)(hq:QuitsIn P n g') :
  PhN P W0 fr cs ρ σ c k l B r A0 S0 mp ((gs.map (woken P g g' w)).setIfInBounds i g') w t (Go.ConcN.upd q i n):=by
 obtain⟨cap,tm,hh,_⟩:=h.ch
 exact { h with
  g0:=fun e=>by
   obtain⟨x,hx,his⟩:=h.g0 e
   exact⟨x,by rw[Ei (Ne.symm hi0) hx,Fo (.inl his.1)],his⟩
  g0p:=fun z f e=>by
   obtain⟨d,u⟩:=h.g0p z f e
   exact⟨by rw[Ei (Ne.symm hi0) d,woken_recv_open _ _ hh],u⟩
  oth:=fun m x hm C hx=>by
   rcases Jv hx with⟨rfl,rfl⟩|⟨hni,y,hy,rfl⟩
   ·rw[upd_same];exact hq
   ·have:=h.oth m y hm C hy
    rw[Fo this.status,upd_ne q n hni];exact this
  jl:=fun x hx=>by simpa using h.jl x hx
  run:=fun x hx fw cw ρw σw e=>{ h.run x hx fw cw ρw σw e with
   g:=by
    obtain⟨y,hy,his⟩:=(h.run x hx fw cw ρw σw e).g
    have hj:x.j≠i:=fun b=>by
     obtain⟨v,D,p,a⟩:=hil x hx b
     rw[e]at a;cases a
    exact⟨y,by rw[Ei hj hy,Fo (.inl his.1)],his⟩ } }
/-- What the first goroutine holds,told otherwise. -/
theorem PhN.ghost{ρ':Ro}{σ':Own}(hg:Ghost ρ σ ρ' σ')(hne:l≠[])(h:PhN P W0 fr cs ρ σ c k l B r A0 S0 mp gs w t q):PhN P W0 fr cs ρ' σ' c k l B r A0 S0 mp gs w t q:=by
 have hc':(c,Res.crowd k (l.map (·.R)))∈σ':=hg.crowdsKept _ _ _ (by simpa using hne) h.hc
 have hcc:∀o,(c,Res.obj o)∉σ:=fun o ho=>by have:=h.sat.uniq ho h.hc;cases this
 exact { h with
  sat:=hg.sat _ h.sat
  hc:=hc'
  one:=fun c' k' Rs' hx hn=>h.one c' k' Rs' (hg.crowds _ _ _ hx) hn
  nr:=fun c' vs hx=>h.nr c' vs ((hg.ends _ _).1 hx)
  newk:=fun b hb=>h.newk b (hg.keys b hb)
  am:=fun b x hb hbc=>by
   have:=hg.keys b (Du hb)
   obtain⟨⟨b',y⟩,hy,e⟩:=Gb.1 this
   simp only at e;subst e
   exact h.am _ y hy hbc
  rm:=fun b hb=>(hg.dom b hb).elim (h.rm b) fun⟨o,ho⟩=>.inr (h.am b _ ho fun e=>hcc o (e ▸ ho)) }
/-- What a worker holds,told otherwise. -/
theorem PhN.ghostw{i:Nat}{x:WK}{fw:Frame}{cw:List Frame}{ρw ρw':Ro}{σw σw':Own}(hg:Ghost ρw σw ρw' σw')(h:PhN P W0 fr cs ρ σ c k l B r A0 S0 mp gs w t q)(hi:l[i]?=some x)(hst:x.st = .run fw cw ρw σw) :
    PhN P W0 fr cs ρ σ c k (l.set i {x with st:=.run fw cw ρw' σw'}) B r A0 S0 mp gs w t q:=by
  have hxl:x∈l:=lZ3 hi
  have hR:=h.run x hxl fw cw ρw σw hst
  have hm:∀{y},y∈l.set i {x with st:=.run fw cw ρw' σw'}→y={x with st:=.run fw cw ρw' σw'}∨(y∈l∧y.j≠x.j):=fun hy=>Zn h.jn hi hy
  have hmj:(l.set i {x with st:=.run fw cw ρw' σw'}).map (·.j)=l.map (·.j):=Lu hi rfl
  have hmR:(l.set i {x with st:=.run fw cw ρw' σw'}).map (·.R)=l.map (·.R):=Lu hi rfl
  exact { h with
    oth:=fun m y F D hy=>h.oth m y F (fun z hz e=>by
      by_cases hzx:z.j=x.j
      · obtain⟨v,C,p,d⟩:=D _ (Ej hi) (hzx.symm.trans e)
        cases d
      · exact D z (Em hi hz hzx) e) hy
    j0:=fun y hy=>by rcases hm hy with rfl|⟨hy,_⟩<;>first|exact h.j0 x hxl|exact h.j0 y hy
    jl:=fun y hy=>by rcases hm hy with rfl|⟨hy,_⟩<;>first|exact h.jl x hxl|exact h.jl y hy
    jn:=by rw[hmj];exact h.jn
    run:=fun y hy H G I J e=>by
      rcases hm hy with rfl|⟨hy,hj⟩
      · cases e
        exact { g := hR.g, sat := hg.sat _ hR.sat, newk := fun b hb => hR.newk b (hg.keys b hb), aw := fun b hb => hR.aw b (hg.keys b hb), kn := hR.kn
                rw_:=fun b hb=>(hg.dom b hb).elim (hR.rw_ b) fun⟨o,ho⟩=>.inr (hR.aw b (Du ho)) }
      · exact h.run y hy _ _ _ _ e
    sent:=fun y hy v C p e=>by
      rcases hm hy with rfl|⟨hy,hj⟩
      · cases e
      · exact h.sent y hy v C p e
    buf:=fun j v hb=>by
      obtain⟨y,hy,e,C,p,d⟩:=h.buf j v hb
      exact⟨y,Em hi hy (fun ej=>by have:=Mk h.jn hy hxl ej;subst this;rw[hst]at d;cases d),e,C,p,d⟩
    ch:=by obtain⟨cap,tm,f,E⟩:=h.ch;exact⟨cap,tm,f,by simpa using E⟩
    hc:=by rw[hmR];exact h.hc
    ap:=fun y hy z hz hj b hb=>by
      rcases hm hy with rfl|⟨hy,hyj⟩<;>rcases hm hz with rfl|⟨hz,hzj⟩
      · exact absurd rfl hj
      · exact h.ap x hxl z hz hj b hb
      · exact h.ap y hy x hxl hj b hb
      · exact h.ap y hy z hz hj b hb
    a0:=fun y hy b hb=>by rcases hm hy with rfl|⟨hy,_⟩<;>first|exact h.a0 x hxl b hb|exact h.a0 y hy b hb
    ss:=fun y hy b hb=>by rcases hm hy with rfl|⟨hy,_⟩<;>first|exact h.ss x hxl b hb|exact h.ss y hy b hb
    nc:=⟨h.nc.1,h.nc.2.1,fun y hy f=>by rcases hm hy with rfl|⟨hy,_⟩<;>first|exact h.nc.2.2 x hxl f|exact h.nc.2.2 y hy f⟩
    lt:=fun b hb=>h.lt b (hb.imp id fun hb=>hb.imp id fun⟨y,hy,hb⟩=>by rcases hm hy with rfl|⟨hy,_⟩<;>first|exact⟨x,hxl,hb⟩|exact⟨y,hy,hb⟩)
    al:=fun n a ha hm'=>(h.al n a ha hm').imp id fun⟨y,hy,u⟩=>by
      by_cases hj:y.j=x.j
      · have:=Mk h.jn hy hxl hj
        subst this
        unfold AlOk at u
        rw[hst]at u
        exact⟨_,Ej hi,u⟩
      · exact⟨y,Em hi hy hj,u⟩ }
/-- From one who is alone. -/
theorem PhA.toN(h:PhA P W0 fr cs ρ σ gs w t q)(hc:(c,Res.crowd k [])∈σ):∃r,PhN P W0 fr cs ρ σ c k [] [] r (fun b=>∃x,(b,x)∈σ∧b≠c) (fun b=>(ρ b).isSome=true) none gs w t q:=by
 obtain⟨cap,buf,s,r,tm,m,d,n⟩:=h.sat.own _ hc
 obtain⟨rfl,rfl⟩:=n rfl
 refine⟨s,{
  g0:=fun _=>h.g0
  g0p:=fun z f e=>by cases e
  oth:=fun i g hi _ hg=>h.oth i g hi hg
  j0:=fun x hx=>by cases hx
  jl:=fun x hx=>by cases hx
  jn:=Acs
  run:=fun x hx=>by cases hx
  sent:=fun x hx=>by cases hx
  buf:=fun j v hx=>by cases hx
  bn:=Acs
  ch:=⟨cap,tm,m,d⟩
  sat:=h.sat
  hc:=hc
  one:=fun c' k' Rs' hx hn=>absurd (h.nr.crowd c' k' Rs' hx) hn
  nr:=h.nr.recv
  newk:=h.newk
  below:=h.below
  am:=fun b x hb hbc=>⟨x,hb,hbc⟩
  rm:=fun b hb=>.inl hb
  ap:=fun x hx=>by cases hx
  a0:=fun x hx=>by cases hx
  ds:=fun b ⟨x,hb,_⟩ d=>by rw[h.sat.dj b (Du hb)]at d;cases d
  ss:=fun x hx=>by cases hx
  nc:=⟨fun⟨_,_,h⟩=>h rfl,by rw[h.sat.dj c (Du hc)];simp,fun x hx=>by cases hx⟩
  lt:=fun b hb=>by
   rcases hb with⟨x,hb,_⟩|hb|⟨x,hx,_⟩
   ·exact h.sat.key_lt (Du hb)
   ·obtain⟨o,ho⟩:=Amj.1 hb
    exact Dq (h.sat.ro b o ho).1
   ·cases hx
  wl:=h.tr.wl
  clean:=h.tr.clean
  k0:=fun i a ha hm=>.inl (h.tr.known i a ha hm)
  al:=fun i a ha hm=>.inl (h.tr.known i a ha hm) }⟩
/-- Nobody is left. -/
theorem PhN.toA(h:PhN P W0 fr cs ρ σ c k [] B r A0 S0 none gs w t q):PhA P W0 fr cs ρ σ gs w t q where
 g0:=h.g0 rfl
 oth:=fun i g hi hg=>h.oth i g hi (fun x hx=>by cases hx) hg
 sat:=h.sat
 nr:=⟨h.nr,fun c' k' Rs' hx=>by
  by_cases hn:Rs'=[]
  ·exact hn
  ·have e:=h.one c' k' Rs' hx hn
   subst e
   have:=h.sat.uniq hx h.hc
   injection this⟩
 newk:=h.newk
 below:=h.below
 tr:=⟨h.wl,h.clean,fun i a ha hm=>(h.al i a ha hm).resolve_right fun⟨x,hx,_⟩=>by cases hx⟩
/-- A GO STATEMENT. -/
theorem PhN.fork{d:Deferred}{i:Nat}{fr':Frame}{R:Value→Ro→Prop}{fn fn':FuncId}{pos pos':String}(h:PhN P W0 fr cs ρ σ c (k+1) l B r A0 S0 none gs w t q)(hi:σ[i]?=some (c,Res.crowd (k+1) (l.map (·.R))))
    {x:WK} (hx:x=⟨gs.size,R,fun _=>False,fun b=>(ρ b).isSome=true,.run (Gg P d) [] ρ []⟩) :
    PhN P W0 fr' cs ρ (σ.set i (c,.crowd k ((l++[x]).map (·.R)))) c k (l++[x]) B r (fun b=>A0 b∧(ρ b).isSome=false) (fun b=>S0 b∨(ρ b).isSome=true) none
      ((gs.setIfInBounds 0 (G fr' cs)).push (G (Gg P d) [])) w ((t.push {g:=0,fn:=fn,pos:=pos,act:=.go gs.size}).push {g:=gs.size,fn:=fn',pos:=pos',act:=.start}) q:=by
  obtain⟨g,hg,his⟩:=h.g0 rfl
  have hsz:0<gs.size:=(Wd.1 hg).1
  obtain⟨V,E,M,W⟩:=Axy (j:=gs.size) h.wl (x:={g:=0,fn:=fn,pos:=pos,act:=.go gs.size}) (y:={g:=gs.size,fn:=fn',pos:=pos',act:=.start}) ⟨rfl,rfl⟩ ⟨rfl,rfl⟩
  have I:=Tt (r':=Res.crowd k ((l++[x]).map (·.R))) hi
  have H:∀p,p∈σ.set i (c,Res.crowd k ((l++[x]).map (·.R)))→p=(c,.crowd k ((l++[x]).map (·.R)))∨(p∈σ∧p.1≠c):=fun p hp=>Gq hi h.sat.nd hp
  have T:(c,Res.crowd k ((l++[x]).map (·.R)))∈σ.set i (c,.crowd k ((l++[x]).map (·.R))):=by
    have hlt:i<σ.length:=by
      rcases Mi i σ.length with h'|h'
      · exact h'
      · rw[Lo h']at hi;cases hi
    exact lZ3 (i:=i) (by rw[Oa];simp[hlt])
  have L:∀m y,m<gs.size→m≠0→(((gs.setIfInBounds 0 (G fr' cs)).push (G (Gg P d) []))[m]?=some y↔gs[m]?=some y):=fun m y hm O=>by
    rw[Aml]
    simp only[Aiv,Aja hm,if_false]
    rw[Arf (Ne.symm O)]
  have hml:∀{y},y∈l++[x]→y∈l∨y=x:=fun hy=>by
    rcases lZ9.1 hy with hy|hy
    · exact .inl hy
    · exact .inr (Jd.1 hy)
  have hj:∀y∈l,y.j≠x.j:=fun y hy e=>by subst hx;exact absurd (h.jl y hy) (by rw[e];exact Nat.lt_irrefl _)
  have hcr:ρ c=none:=h.sat.dj c (Du h.hc)
  obtain⟨cap,tm,hch,X⟩:=h.ch
  have hxj:x.j=gs.size:=by rw[hx]
  have hxA:∀b,¬x.A b:=fun b hb=>by rw[hx]at hb;exact hb
  have hxS:∀b,x.S b↔(ρ b).isSome=true:=fun b=>by rw[hx]
  rw[M]
  exact {
    g0:=fun _=>⟨G fr' cs,by rw[Aml];simp only[Aiv,Aja hsz,if_false];exact Fq hg,Is.of _ _⟩
    g0p:=fun z f e=>by cases e
    oth:=fun m y hm J hy=>by
      by_cases hms:m=gs.size
      · obtain⟨v,N,p,e⟩:=J x (by simp) (by rw[hxj,hms])
        rw[hx]at e;cases e
      · have hlt:m<gs.size:=by
          have:=(Wd.1 hy).1
          simp only[Array.size_push,Aiv]at this
          omega
        exact h.oth m y hm (fun z hz e=>J z (Ia _ hz) e) ((L m y hlt hm).1 hy)
    j0:=fun y hy=>by
      rcases hml hy with hy|rfl
      · exact h.j0 y hy
      · rw[hxj];omega
    jl:=fun y hy=>by
      simp only[Array.size_push,Aiv]
      rcases hml hy with hy|rfl
      · exact Air (h.jl y hy)
      · rw[hxj];omega
    jn:=by
      rw[Ga,Wf]
      refine⟨h.jn,by simp,fun a ha b hb e=>?_⟩
      obtain⟨y,hy,rfl⟩:=Gb.1 ha
      have hb':b=x.j:=by simpa using hb
      exact hj y hy (e.trans hb')
    run:=fun y hy fw cw ρw σw e=>by
      rcases hml hy with hy|rfl
      · have z:=h.run y hy fw cw ρw σw e
        exact { g := by
                  obtain⟨u,hu,hi⟩:=z.g
                  exact⟨u,(L _ _ (h.jl y hy) (h.j0 y hy)).2 hu,hi⟩
                sat:=z.sat,newk:=z.newk,aw:=z.aw,rw_:=z.rw_,kn:=z.kn.other (Dp _) (Ha E) }
      · rw[hx]at e;cases e
        refine⟨⟨G (Gg P d) [],by rw[hxj,Aml];simp,Is.of _ _⟩,⟨h.sat.ro,fun p hp=>absurd hp Ow,Acs,fun b hb=>absurd hb Ow⟩,fun b hb=>(by cases hb),fun b hb=>(by cases hb),fun b hb=>.inl ((hxS b).2 hb),?_⟩
        intro n a ha hm
        rcases h.k0 n a (Sw ha E) hm with C|C
        · exact .inl (by rw[hxj];exact W n C)
        · refine .inr (C.mono (Dp _) (fun p ⟨b,_,hb⟩=>absurd hb (hxA b)) fun p ⟨b,K,hb⟩=>?_)
          exact(h.rm b ((hxS b).1 hb)).elim (fun D=>.inr ⟨b,K,D⟩) fun D=>.inl ⟨b,K,D⟩
    sent:=fun y hy v N p e=>by
      rcases hml hy with hy|rfl
      · exact(h.sent y hy v N p e).kept (fun b _=>rfl) (Dp _) (Ha E)
      · rw[hx]at e;cases e
    buf:=fun j v hb=>by
      obtain⟨y,hy,e⟩:=h.buf j v hb
      exact⟨y,Ia _ hy,e⟩
    bn:=h.bn
    ch:=⟨cap,tm,hch,by simp only[lZ1,Nk];omega⟩
    sat:=by
      refine⟨h.sat.ro,fun p hp=>?_,by rw[I];exact h.sat.nd,by rw[I];exact h.sat.dj⟩
      rcases H p hp with rfl|⟨hp',_⟩
      · exact⟨cap,_,_,_,tm,hch,by simp only[Abh,lZ1,Nk];omega,fun e=>by simp at e⟩
      · exact h.sat.own p hp'
    hc:=T
    one:=fun c' k' Rs' hc' hn=>by
      rcases H _ hc' with e|⟨hc'',_⟩
      · injection e
      · exact h.one c' k' Rs' hc'' hn
    nr:=fun c' vs hc'=>by
      rcases H _ hc' with e|⟨hc'',_⟩
      · cases e
      · exact h.nr c' vs hc''
    newk:=by rw[I];exact h.newk
    below:=h.below
    am:=fun b y hb hbc=>by
      rcases H _ hb with e|⟨hb',_⟩
      · injection e with e _;exact absurd e hbc
      · exact⟨h.am b y hb' hbc,by rw[h.sat.dj b (Du hb')];rfl⟩
    rm:=fun b hb=>.inl (.inr hb)
    ap:=fun y hy z hz hne b hb=>by
      rcases hml hy with hy'|e
      · rcases hml hz with hz'|e
        · exact h.ap y hy' z hz' hne b hb
        · rw[e];exact⟨hxA b,fun C=>(h.rm b ((hxS b).1 C)).elim (h.a0 y hy' b hb).2 (h.a0 y hy' b hb).1⟩
      · rw[e]at hb;exact absurd hb (hxA b)
    a0:=fun y hy b hb=>by
      rcases hml hy with hy|rfl
      · exact⟨fun C=>(h.a0 y hy b hb).1 C.1,fun C=>C.elim (h.a0 y hy b hb).2 fun C=>(h.rm b C).elim (h.a0 y hy b hb).2 (h.a0 y hy b hb).1⟩
      · exact absurd hb (hxA b)
    ds:=fun b hb C=>C.elim (h.ds b hb.1) fun C=>by rw[hb.2]at C;cases C
    ss:=fun y hy b hb=>by
      rcases hml hy with hy|rfl
      · exact .inl (h.ss y hy b hb)
      · exact .inr ((hxS b).1 hb)
    nc:=⟨fun C=>h.nc.1 C.1,fun C=>C.elim h.nc.2.1 (fun C=>by rw[hcr]at C;cases C),fun y hy C=>by
      rcases hml hy with hy|rfl
      · exact h.nc.2.2 y hy C
      · exact hxA c C⟩
    lt:=fun b hb=>by
      rcases hb with hb|(hb|hb)|⟨y,hy,hb⟩
      · exact h.lt b (.inl hb.1)
      · exact h.lt b (.inr (.inl hb))
      · exact(h.rm b hb).elim (fun C=>h.lt b (.inr (.inl C))) fun C=>h.lt b (.inl C)
      · rcases hml hy with hy|rfl
        · exact h.lt b (.inr (.inr ⟨y,hy,hb⟩))
        · exact absurd hb (hxA b)
    wl:=by rw[←M];exact V
    clean:=fun U=>Ni (h.clean U) E
    k0:=(h.k0.mono (Dp _) (fun p ⟨b,C,D⟩=>⟨b,C,D.1⟩) fun p ⟨b,C,D⟩=>by
      rcases D with D|D
      · exact .inr ⟨b,C,D⟩
      · exact(h.rm b D).elim (fun F=>.inr ⟨b,C,F⟩) fun F=>.inl ⟨b,C,F⟩).other (Dp _) (Ha E)
    al:=fun n a ha hm=>(h.al n a (Sw ha E) hm).imp (·.app _) fun⟨y,hy,F⟩=>⟨y,Ia _ hy,F.app _⟩ }
/-- A SEND that finds room. -/
theorem PhN.send{i n:Nat}{x:WK}{fw:Frame}{cw:List Frame}{ρw:Ro}{σw:Own}{v:Value}{cap:Nat}{tm:Bool}{fn fn':FuncId}{pos pos':String}(h:PhN P W0 fr cs ρ σ c k l B r A0 S0 none gs w t q)(hi:l[i]?=some x)
  (hst:x.st = .run fw cw ρw σw) (hv:x.R v ρw) (hq:QuitsIn P n (Conc.served (G fw cw) undef)) (hcap:k+l.length≤cap) :
  PhN P W0 fr cs ρ σ c k (l.set i {x with st:=.sent v ρw t.size}) (B++[(x.j,v)]) r A0 S0 none (gs.setIfInBounds x.j (Conc.served (G fw cw) undef)) (w.setChan c cap ((B.map Prod.snd).toArray.push v) false (r+B.length+1) r tm)
   (t ++ #[{g:=x.j,fn:=fn,pos:=pos,act:=.send c (r+B.length)},{g:=x.j,fn:=fn',pos:=pos',act:=.sendDone c (r+B.length)}]) (Go.ConcN.upd q x.j n):=by
 have hxl:x∈l:=lZ3 hi
 have hR:=h.run x hxl fw cw ρw σw hst
 obtain⟨V,Y,hch,_⟩:=h.ch
 have N:c<w.heap.size:=Dq hch
 have hcW:W0.heap.size≤c:=h.newk c (Du h.hc)
 generalize hu:(#[{g:=x.j,fn:=fn,pos:=pos,act:=.send c (r+B.length)},{g:=x.j,fn:=fn',pos:=pos',act:=.sendDone c (r+B.length)}]:Trace)=u
 have E:∀op∈u,op.act.touch?=none:=fun op hop=>by
  subst hu
  simp only[Abg,lZ5,Ow,or_false]at hop
  rcases hop with rfl|rfl<;>rfl
 have hwl:Wordless u:=fun op hop m hm=>by
  subst hu
  simp only[Abg,lZ5,Ow,or_false]at hop
  rcases hop with rfl|rfl<;>cases hm
 have hat:(t++u)[t.size]?=some {g:=x.j,fn:=fn,pos:=pos,act:=.send c (r+B.length)}:=by rw[Zb (Dp _)];subst hu;simp
 have hsz:(w.setChan c cap ((B.map Prod.snd).toArray.push v) false (r+B.length+1) r tm).heap.size=w.heap.size:=by simp[World.setChan]
 have hne:∀b,b≠c→(w.setChan c cap ((B.map Prod.snd).toArray.push v) false (r+B.length+1) r tm).heap[b]?=w.heap[b]?:=fun b hb=>Fi hb
 have hm:∀{y},y∈l.set i {x with st:=.sent v ρw t.size}→y={x with st:=.sent v ρw t.size}∨(y∈l∧y.j≠x.j):=fun hy=>Zn h.jn hi hy
 have hmj:(l.set i {x with st:=.sent v ρw t.size}).map (·.j)=l.map (·.j):=Lu hi rfl
 have hmR:(l.set i {x with st:=.sent v ρw t.size}).map (·.R)=l.map (·.R):=Lu hi rfl
 have H:∀y∈l,∀b,y.A b∨y.S b→b≠c:=fun y hy b hb e=>by
  subst e
  rcases hb with hb|hb
  ·exact h.nc.2.2 y hy hb
  ·exact h.nc.2.1 (h.ss y hy _ hb)
 have hBn:x.j∉B.map Prod.fst:=fun hb=>by
  obtain⟨⟨j,v'⟩,hb,e⟩:=Gb.1 hb
  obtain⟨y,hy,d,F,p,I⟩:=h.buf j v' hb
  have:=Mk h.jn hy hxl (d.trans e)
  subst this
  rw[hst]at I;cases I
 have hsn:(w.setChan c cap ((B.map Prod.snd).toArray.push v) false (r+B.length+1) r tm).heap[c]?=some (.chan cap ((B++[(x.j,v)]).map Prod.snd).toArray false (r+(B++[(x.j,v)]).length) r tm):=by
  rw[Hq N]
  simp only[Ga,Ez,List.map_nil,lZ1,Nk,List.push_toArray,Nat.add_assoc]
 exact {
  g0:=fun e=>by
   obtain⟨y,hy,hi⟩:=h.g0 e
   exact⟨y,by rw[Dw (Ne.symm (h.j0 x hxl))];exact hy,hi⟩
  g0p:=fun z f e=>by cases e
  oth:=fun m y O M hy=>by
   rcases get_set hy with⟨rfl,rfl⟩|⟨hmx,hy⟩
   ·rw[upd_same];exact hq
   ·rw[upd_ne q n hmx]
    exact h.oth m y O (fun z hz e=>M z (Em hi hz (by rw[e];exact hmx)) e) hy
  j0:=fun y hy=>by rcases hm hy with rfl|⟨hy,_⟩<;>first|exact h.j0 x hxl|exact h.j0 y hy
  jl:=fun y hy=>by
   simp only[Aiv]
   rcases hm hy with rfl|⟨hy,_⟩<;>first|exact h.jl x hxl|exact h.jl y hy
  jn:=by rw[hmj];exact h.jn
  run:=fun y hy X W Z a1 e=>by
   rcases hm hy with rfl|⟨hy,hj⟩
   ·cases e
   ·refine(h.run y hy _ _ _ _ e).kept ?_ (fun b hb=>hne b (H y hy b hb)) (Yy hsz.symm) (Ha E)
    obtain⟨z,hz,hi⟩:=(h.run y hy _ _ _ _ e).g
    exact⟨z,by rw[Dw hj];exact hz,hi⟩
  sent:=fun y hy U F p e=>by
   rcases hm hy with rfl|⟨hy,hj⟩
   ·cases e
    refine⟨hv,fun b o hb=>?_,hR.rw_,?_,B.length,_,by simp,hat,rfl⟩
    ·rw[hne b (H x hxl b (hR.rw_ b (by rw[hb];rfl)).symm)];exact hR.sat.ro b o hb
    ·rw[hsz];exact hR.kn.told E (Dp _) hat rfl
   ·have z:=(h.sent y hy U F p e).kept (w':=w.setChan c cap ((B.map Prod.snd).toArray.push v) false (r+B.length+1) r tm) (fun b hb=>hne b (H y hy b hb)) (Yy hsz.symm) (Ha E)
    obtain⟨m,op,C,K,D⟩:=z.at_
    have hlt:m<B.length:=by
     rcases Mi m B.length with h'|h'
     ·exact h'
     ·rw[Lo h']at C;cases C
    exact⟨z.val,z.sat,z.rw_,z.kp,m,op,by rw[Abd hlt];exact C,K,D⟩
  buf:=fun j v' hb=>by
   rcases lZ9.1 hb with hb|hb
   ·obtain⟨y,hy,e,F,p,d⟩:=h.buf j v' hb
    exact⟨y,Em hi hy (fun ej=>by have:=Mk h.jn hy hxl ej;subst this;rw[hst]at d;cases d),e,F,p,d⟩
   ·have e:(j,v')=(x.j,v):=by simpa using hb
    injection e with e1 d
    subst e1 d
    exact⟨_,Ej hi,rfl,ρw,t.size,rfl⟩
  bn:=by
   rw[Ga,Wf]
   refine⟨h.bn,by simp,fun a ha b hb e=>?_⟩
   have hb':b=x.j:=by simpa using hb
   exact hBn (hb' ▸ e ▸ ha)
  ch:=⟨cap,tm,hsn,by simpa using hcap⟩
  sat:=by
   refine⟨fun b o hb=>?_,fun p hp=>?_,h.sat.nd,h.sat.dj⟩
   ·have hbc:b≠c:=fun e=>by
     have:=h.sat.dj c (Du h.hc)
     rw[←e,hb]at this;cases this
    rw[hne b hbc];exact h.sat.ro b o hb
   ·have hf:=h.sat.own p hp
    obtain⟨b,y⟩:=p
    by_cases hbc:b=c
    ·subst hbc
     have e:=h.sat.uniq hp h.hc
     subst e
     exact⟨cap,_,_,_,tm,hsn,by simpa using hcap,fun e=>by
      have:l=[]:=by simpa using e
      rw[this]at hxl;cases hxl⟩
    ·exact Res.fits_of hf (hne b hbc)
  hc:=by rw[hmR];exact h.hc
  one:=h.one
  nr:=h.nr
  newk:=h.newk
  below:=⟨h.below.os,h.below.tape,h.below.output,by rw[hsz];exact h.below.size,fun m hm=>by rw[hne m (by omega)];exact h.below.block m hm⟩
  am:=h.am
  rm:=h.rm
  ap:=fun y hy z hz hj b hb=>by
   rcases hm hy with rfl|⟨hy,hyj⟩<;>rcases hm hz with rfl|⟨hz,hzj⟩
   ·exact absurd rfl hj
   ·exact h.ap x hxl z hz hj b hb
   ·exact h.ap y hy x hxl hj b hb
   ·exact h.ap y hy z hz hj b hb
  a0:=fun y hy b hb=>by rcases hm hy with rfl|⟨hy,_⟩<;>first|exact h.a0 x hxl b hb|exact h.a0 y hy b hb
  ds:=h.ds
  ss:=fun y hy b hb=>by rcases hm hy with rfl|⟨hy,_⟩<;>first|exact h.ss x hxl b hb|exact h.ss y hy b hb
  nc:=⟨h.nc.1,h.nc.2.1,fun y hy C=>by rcases hm hy with rfl|⟨hy,_⟩<;>first|exact h.nc.2.2 x hxl C|exact h.nc.2.2 y hy C⟩
  lt:=fun b hb=>by
   rw[hsz]
   exact h.lt b (hb.imp id fun hb=>hb.imp id fun⟨y,hy,hb⟩=>by rcases hm hy with rfl|⟨hy,_⟩<;>first|exact⟨x,hxl,hb⟩|exact⟨y,hy,hb⟩)
  wl:=h.wl.append hwl
  clean:=fun T=>Ni (h.clean T) E
  k0:=h.k0.other (Yy hsz.symm) (Ha E)
  al:=fun m a ha hm'=>(h.al m a (Sw ha E) hm').imp (·.app _) fun⟨y,hy,D⟩=>by
   by_cases hj:y.j=x.j
   ·have:=Mk h.jn hy hxl hj
    subst this
    unfold AlOk at D
    rw[hst]at D
    obtain⟨op,J,L⟩:=D
    have hlt:=lt_size_of_getElem? J
    exact⟨_,Ej hi,.inr (hb_po hlt (by rw[getElem?_append_old hlt];exact J) hat L)⟩
   ·exact⟨y,Em hi hy hj,D.app _⟩ }
theorem Mv{β:Type}{f:WK→β}{i:Nat}:(l.eraseIdx i).map f=(l.map f).eraseIdx i:=by
 induction l generalizing i with
 | nil=>simp
 | cons a l ih=>cases i with
  | zero=>rfl
  | succ i=>simp only[List.eraseIdx_cons_succ,Ez,ih]
/-- A RECEIVE: a worker's value comes to the first goroutine. -/
theorem PhN.take{i i0 p q0:Nat}{x:WK}{rv:Value}{ρw:Ro}{B':List (Nat×Value)}{cap:Nat}{tm:Bool}{gs':Array Goroutine}{u:Trace}{q':Nat→Nat}{y0:MemOp}(h:PhN P W0 fr cs ρ σ c k l B r A0 S0 mp gs w t q)(hi:l[i]?=some x)
  (hi0:σ[i0]?=some (c,Res.crowd k (l.map (·.R)))) (hcap:k+l.length≤cap) (hsw:∀b o,ρw b=some o→w.heap[b]?=some o∧o.isChan=false) (hrw:∀b,(ρw b).isSome=true→x.S b∨x.A b)
  (hkp:KPt (t++u) p w.heap.size (BL x.A) (BL x.S)) (hmute:∀op∈u,op.act.touch?=none) (hwl:Wordless u) (hy0:(t++u)[q0]?=some y0) (hy0g:y0.g=0) (hpq:HappensBefore (t++u) p q0) (hal:∀m,AlOk t m x→Before (t++u) m p)
  (hB:(B=[]∧B'=[])∨∃v',B=(x.j,v')::B') (hg0:∃g,gs'[0]?=some g∧Is g (fr.finish rv) cs) (hgs:gs'.size=gs.size) (hgo:∀m,m≠0→m≠x.j→gs'[m]?=gs[m]?)
  (hq:∀g,gs'[x.j]?=some g→QuitsIn P (q' x.j) g) (hqo:∀m,m≠x.j→q' m=q m) :
  ∃ρ',Ro.le ρ ρ'∧Ro.le ρw ρ'∧PhN P W0 (fr.finish rv) cs ρ' (σ.set i0 (c,.crowd k ((l.eraseIdx i).map (·.R)))) c k (l.eraseIdx i) B' (r+1) (fun b=>A0 b∨x.A b) S0 none gs' (w.setChan c cap (B'.map Prod.snd).toArray false (r+1+B'.length) (r+1) tm) (t++u) q':=by
 have hxl:x∈l:=lZ3 hi
 obtain⟨X,a2,hch,_⟩:=h.ch
 have G:c<w.heap.size:=Dq hch
 have hcW:W0.heap.size≤c:=h.newk c (Du h.hc)
 have hsz:(w.setChan c cap (B'.map Prod.snd).toArray false (r+1+B'.length) (r+1) tm).heap.size=w.heap.size:=by simp[World.setChan]
 have hne:∀b,b≠c→(w.setChan c cap (B'.map Prod.snd).toArray false (r+1+B'.length) (r+1) tm).heap[b]?=w.heap[b]?:=fun b hb=>Fi hb
 have hm:∀{y},y∈l.eraseIdx i→y∈l∧y.j≠x.j:=fun hy=>Amu h.jn hi hy
 have H:∀y∈l,∀b,y.A b∨y.S b→b≠c:=fun y hy b hb e=>by
  subst e
  rcases hb with hb|hb
  ·exact h.nc.2.2 y hy hb
  ·exact h.nc.2.1 (h.ss y hy _ hb)
 have F:=Tt (r':=Res.crowd k ((l.eraseIdx i).map (·.R))) hi0
 have C:∀z,z∈σ.set i0 (c,Res.crowd k ((l.eraseIdx i).map (·.R)))→z=(c,.crowd k ((l.eraseIdx i).map (·.R)))∨(z∈σ∧z.1≠c):=fun z hz=>Gq hi0 h.sat.nd hz
 have O:(c,Res.crowd k ((l.eraseIdx i).map (·.R)))∈σ.set i0 (c,.crowd k ((l.eraseIdx i).map (·.R))):=by
  have hlt:i0<σ.length:=by
   rcases Mi i0 σ.length with h'|h'
   ·exact h'
   ·rw[Lo h']at hi0;cases hi0
  exact lZ3 (i:=i0) (by rw[Oa];simp[hlt])
 have a1:(l.eraseIdx i).length≤l.length:=List.length_eraseIdx_le _ _
 have hBm:∀e,e∈B'→e∈B∧e.1≠x.j:=fun e he=>by
  rcases hB with⟨_,n⟩|⟨v',d⟩
  ·rw[n]at he;cases he
  ·refine⟨by rw[d];exact lZ0 _ he,fun ej=>?_⟩
   have:=h.bn
   rw[d,Ez,Lr]at this
   exact this.1 (by simp only;rw[←ej];exact Im (f:=Prod.fst) he)
 let ρ':Ro:=fun b=>match ρ b with|some o=>some o|none=>ρw b
 have M:Ro.le ρ ρ':=fun b o hb=>by show (match ρ b with|some o=>some o|none=>ρw b)=some o;rw[hb]
 have N:Ro.le ρw ρ':=fun b o hb=>by
  show (match ρ b with|some o=>some o|none=>ρw b)=some o
  cases hr:ρ b with
  | none=>exact hb
  | some o' =>
   have d:=(h.sat.ro b o' hr).1
   rw[(hsw b o hb).1]at d
   exact d.symm
 have hρ:∀b o,ρ' b=some o→ρ b=some o∨ρw b=some o:=fun b o hb=>by
  change (match ρ b with|some o=>some o|none=>ρw b)=some o at hb
  cases hr:ρ b with
  | none=>rw[hr]at hb;exact .inr hb
  | some o'=>rw[hr]at hb;exact .inl hb
 have hρd:∀b,(ρ' b).isSome=true→S0 b∨A0 b∨x.A b:=fun b hb=>by
  obtain⟨o,ho⟩:=Amj.1 hb
  rcases hρ b o ho with d|d
  ·exact(h.rm b (by rw[d];rfl)).imp id .inl
  ·exact(hrw b (by rw[d];rfl)).imp (h.ss x hxl b) .inr
 have hnc:∀b o,ρ' b=some o→b≠c:=fun b o hb e=>by
  subst e
  rcases hρd _ (by rw[hb];rfl) with d|d|d
  ·exact h.nc.2.1 d
  ·exact h.nc.1 d
  ·exact h.nc.2.2 x hxl d
 refine⟨ρ',M,N,{
  g0:=fun _=>hg0
  g0p:=fun z f e=>by cases e
  oth:=fun m y I L hy=>by
   by_cases hmx:m=x.j
   ·subst hmx;exact hq y hy
   ·rw[hqo m hmx]
    refine h.oth m y I (fun z hz e=>L z (Iz hi hz (by rw[e];exact hmx)) e) ?_
    rw[←hgo m I hmx];exact hy
  j0:=fun y hy=>h.j0 y (hm hy).1
  jl:=fun y hy=>by rw[hgs];exact h.jl y (hm hy).1
  jn:=by rw[Mv];exact(List.eraseIdx_sublist _ _).nodup h.jn
  run:=fun y hy Z Y a3 a4 e=>by
   refine(h.run y (hm hy).1 _ _ _ _ e).kept ?_ (fun b hb=>hne b (H y (hm hy).1 b hb)) (Yy hsz.symm) (Ha hmute)
   obtain⟨z,hz,hi⟩:=(h.run y (hm hy).1 _ _ _ _ e).g
   exact⟨z,by rw[hgo _ (h.j0 y (hm hy).1) (hm hy).2];exact hz,hi⟩
  sent:=fun y hy V W T e=>by
   have z:=(h.sent y (hm hy).1 V W T e).kept (w':=w.setChan c cap (B'.map Prod.snd).toArray false (r+1+B'.length) (r+1) tm) (fun b hb=>hne b (H y (hm hy).1 b hb)) (Yy hsz.symm) (Ha hmute)
   refine⟨z.val,z.sat,z.rw_,z.kp,?_⟩
   obtain⟨m,op,d,n,v⟩:=z.at_
   rcases hB with⟨D,_⟩|⟨v',D⟩
   ·rw[D]at d;cases d
   ·rw[D]at d
    cases m with
    | zero =>
     simp only[Arg,Option.some.injEq,Prod.mk.injEq]at d
     exact absurd d.1.symm (hm hy).2
    | succ m =>
     rw[Ot]at d
     exact⟨m,op,d,n,by rw[v];congr 1;omega⟩
  buf:=fun j v' hb=>by
   obtain⟨d,n⟩:=hBm _ hb
   obtain⟨y,hy,e,E⟩:=h.buf j v' d
   exact⟨y,Iz hi hy (by rw[e];exact n),e,E⟩
  bn:=by
   rcases hB with⟨_,e⟩|⟨v',e⟩
   ·rw[e];exact Acs
   ·have:=h.bn
    rw[e,Ez,Lr]at this
    exact this.2
  ch:=⟨cap,tm,Hq G,by omega⟩
  sat:=by
   refine⟨fun b o hb=>?_,fun z hz=>?_,by rw[F];exact h.sat.nd,fun b hb=>?_⟩
   ·rw[hne b (hnc b o hb)]
    exact(hρ b o hb).elim (h.sat.ro b o) (hsw b o)
   ·rcases C z hz with rfl|⟨hz',hzc⟩
    ·exact⟨cap,_,_,_,tm,Hq G,by rw[Abh];omega,fun e=>by
      have E:l.eraseIdx i=[]:=by simpa using e
      have J:B'=[]:=by
       cases hb:B' with
       | nil=>rfl
       | cons b0 B1 =>
        obtain⟨d,n⟩:=hBm b0 (by rw[hb];exact Me ..)
        obtain⟨y,hy,K,_⟩:=h.buf b0.1 b0.2 d
        have:=Iz hi hy (by rw[K];exact n)
        rw[E]at this;cases this
      rw[J];exact⟨rfl,rfl⟩⟩
    ·exact Res.fits_of (h.sat.own z hz') (hne z.1 hzc)
   ·rw[F]at hb
    cases hr:ρ' b with
    | none=>rfl
    | some o =>
     exfalso
     rcases hρ b o hr with d|d
     ·rw[h.sat.dj b hb]at d;cases d
     ·obtain⟨⟨b',y⟩,hy,e⟩:=Gb.1 hb
      simp only at e;subst e
      have hA:=h.am _ y hy (hnc _ _ hr)
      rcases hrw _ (show (ρw b').isSome=true by rw[d];rfl) with n|n
      ·exact h.ds _ hA (h.ss x hxl _ n)
      ·exact(h.a0 x hxl _ n).1 hA
  hc:=O
  one:=fun c' k' Rs' hc' hn=>by
   rcases C _ hc' with e|⟨hc'',_⟩
   ·injection e
   ·exact h.one c' k' Rs' hc'' hn
  nr:=fun c' vs hc'=>by
   rcases C _ hc' with e|⟨hc'',_⟩
   ·cases e
   ·exact h.nr c' vs hc''
  newk:=by rw[F];exact h.newk
  below:=⟨h.below.os,h.below.tape,h.below.output,by rw[hsz];exact h.below.size,fun m hm=>by rw[hne m (by omega)];exact h.below.block m hm⟩
  am:=fun b y hb hbc=>by
   rcases C _ hb with e|⟨hb',_⟩
   ·injection e with e _;exact absurd e hbc
   ·exact .inl (h.am b y hb' hbc)
  rm:=hρd
  ap:=fun y hy z hz hj b hb=>h.ap y (hm hy).1 z (hm hz).1 hj b hb
  a0:=fun y hy b hb=>⟨fun d=>d.elim (h.a0 y (hm hy).1 b hb).1 (h.ap y (hm hy).1 x hxl (hm hy).2 b hb).1,(h.a0 y (hm hy).1 b hb).2⟩
  ds:=fun b hb=>hb.elim (h.ds b) fun hb=>(h.a0 x hxl b hb).2
  ss:=fun y hy=>h.ss y (hm hy).1
  nc:=⟨fun d=>d.elim h.nc.1 (h.nc.2.2 x hxl),h.nc.2.1,fun y hy=>h.nc.2.2 y (hm hy).1⟩
  lt:=fun b hb=>by
   rw[hsz]
   rcases hb with (hb|hb)|hb|⟨y,hy,hb⟩
   ·exact h.lt b (.inl hb)
   ·exact h.lt b (.inr (.inr ⟨x,hxl,hb⟩))
   ·exact h.lt b (.inr (.inl hb))
   ·exact h.lt b (.inr (.inr ⟨y,(hm hy).1,hb⟩))
  wl:=h.wl.append hwl
  clean:=fun U=>Ni (h.clean U) hmute
  k0:=(h.k0.hears hkp hmute hy0 hy0g hpq).mono (Yy hsz.symm) (fun p' ⟨b,d,n⟩=>n.imp (fun n=>⟨b,d,n⟩) fun n=>⟨b,d,n⟩) fun p' d=>.inr d
  al:=fun m a ha hm'=>by
   rcases h.al m a (Sw ha hmute) hm' with d|⟨y,hy,v⟩
   ·exact .inl (d.app _)
   ·by_cases hj:y.j=x.j
    ·have:=Mk h.jn hy hxl hj
     subst this
     exact .inl ⟨q0,y0,hy0,hy0g,.inr ((hal m v).hb hpq)⟩
    ·exact .inr ⟨y,Iz hi hy hj,v.app _⟩ }⟩
end
end
section
open Go Go.Conc Go.RowKit
open Go.ConcN (sumTo sumTo_upd upd_ne upd_same)
/-- How a worker goes on: to K. -/
def Bcw(P:Program)(c:Nat)(x:WK)(K:WK→Prop):Prop:=match x.st with
  | .run fw cw ρw σw=>∃ρ' σ',Ghost ρw σw ρ' σ' ∧
      ((∃K0, Aal (Wn P) fw cw ρ' σ' K0 ∧ ∀fr' cs' σ'', K0 fr' cs' σ'' → ∀A, K {x with A := A, st := .run fr' cs' ρ' σ''}) ∨
       (∃v z, Amv P c v z fw cw ∧ x.R v ρ' ∧ (∃n, QuitsIn P n (Conc.served (G fw cw) undef)) ∧ ∀p, K {x with st := .sent v ρ' p}))
  | .sent ..=>True
/-- It comes to its end. -/
inductive Live(P:Program)(c:Nat):WK→Prop
 | mk {x:WK} (K:WK→Prop):Bcw P c x K→(∀x',K x'→Live P c x')→Live P c x
theorem Live.sent{P:Program}{c j:Nat}{R:Value→Ro→Prop}{A S:Nat→Prop}{v:Value}{ρw:Ro}{p:Nat}:Live P c ⟨j,R,A,S,.sent v ρw p⟩:=.mk (fun _=>False) trivial fun _ h=>h.elim
theorem Live.of_msg{P:Program}{c:Nat}{R:Value→Ro→Prop}{fw:Frame}{cw:List Frame}{ρw:Ro}{σw:Own}(h:MsgI P c R fw cw ρw σw)(j:Nat)(S:Nat→Prop):∀A,Live P c ⟨j,R,A,S,.run fw cw ρw σw⟩:=by
 induction h with
 | ghost hg _ ih =>
  intro A
  obtain⟨K,⟨ρ',σ',b,d⟩,e⟩:=ih A
  exact .mk K ⟨ρ',σ',hg.trans b,d⟩ e
 | @step fw cw ρw σw K0 hst _ ih =>
  intro A
  refine .mk (fun x'=>∃fr' cs' σ'' A',K0 fr' cs' σ''∧x'=⟨j,R,A',S,.run fr' cs' ρw σ''⟩) ⟨ρw,σw,.refl,.inl ⟨K0,hst,fun fr' cs' σ'' hk A'=>⟨fr',cs',σ'',A',hk,rfl⟩⟩⟩ ?_
  rintro _ ⟨fr',cs',σ'',A',hk,rfl⟩
  exact ih _ _ _ hk A'
 | @send v z fw cw ρw σw b d e =>
  intro A
  refine .mk (fun x'=>∃p,x'=⟨j,R,A,S,.sent v ρw p⟩) ⟨ρw,σw,.refl,.inr ⟨v,z,b,d,e,fun p=>⟨p,rfl⟩⟩⟩ ?_
  rintro _ ⟨p,rfl⟩
  exact .sent
/-- What holds of a list of workers if it holds wherever one of them goes on. -/
theorem Ajf{P:Program}{c:Nat}:∀(n:Nat) (T:List WK→Prop),(∀l,(∀i x,l[i]?=some x→∃K,Bcw P c x K∧∀x',K x'→Live P c x'∧T (l.set i x'))→T l)→∀l,l.length=n→(∀x∈l,Live P c x)→T l
 | 0,T,good,l,hl,_=>by
  have:l=[]:=Za hl
  subst this
  exact good [] fun i x hx=>by cases hx
 | n+1,T,good,l,hl,hall=>by
  have key:∀a,Live P c a→∀l',l'.length=n→(∀x∈l',Live P c x)→T (a::l'):=by
   intro a ha
   induction ha with
   | @mk a K hf hk ih =>
    intro l' hl' b
    refine Ajf n (fun l'=>l'.length=n→(∀x∈l',Live P c x)→T (a::l')) (fun l' hs d hal=>good (a::l') fun i x hx=>?_) l' hl' b hl' b
    cases i with
    | zero=>cases hx;exact⟨K,hf,fun x' hx'=>⟨hk x' hx',ih x' hx' l' d hal⟩⟩
    | succ i =>
     rw[Ot]at hx
     obtain⟨K',hf',hk'⟩:=hs i x hx
     refine⟨K',hf',fun x' hx'=>⟨(hk' x' hx').1,(hk' x' hx').2 (by simpa using d) fun y hy=>?_⟩⟩
     rcases List.mem_or_eq_of_mem_set hy with h|rfl
     ·exact hal y h
     ·exact(hk' _ hx').1
  cases l with
  | nil=>cases hl
  | cons a l'=>exact key a (hall a mC) l' (by simpa using hl) fun x hx=>hall x (lZ0 _ hx)
theorem Zi{α:Type}:∀{l m:List α},l.Nodup→(∀x∈l,x∈m)→l.length≤m.length
 | [],m,_,_=>Oc _
 | a::l,m,hn,hs=>by
  obtain⟨s,t,rfl⟩:=List.append_of_mem (hs a mC)
  have hn':=Lr.1 hn
  have:=Zi (l:=l) (m:=s++t) hn'.2 fun x hx=>by
   have b:=hs x (lZ0 _ hx)
   rcases lZ9.1 b with b|b
   ·exact Ia _ b
   ·rcases lZ5.1 b with rfl|b
    ·exact absurd hx hn'.1
    ·exact Hb _ b
  simp only[lZ1,lZ7]at this ⊢
  omega
section
variable{P:Program}{Pst:Value→World→Prop}{W0:World}{fr:Frame}{cs:List Frame}{ρ:Ro}{σ:Own}{c k r:Nat}{l:List WK}{B:List (Nat×Value)}{A0 S0:Nat→Prop}{mp:Option (Value×Bool)}
 {gs:Array Goroutine} {w:World} {t:Trace} {q:Nat→Nat}
theorem PhN.awake(h:PhN P W0 fr cs ρ σ c k l B r A0 S0 mp gs w t q):∀g∈gs,Conc.awake g:=by
 intro g hg
 obtain⟨i,hi⟩:=Avl hg
 by_cases hi0:i=0
 ·subst hi0
  cases hm:mp with
  | none=>obtain⟨x,hx,his⟩:=h.g0 hm;rw[hx]at hi;cases hi;exact Ip his.1
  | some z=>obtain⟨z,f⟩:=z;rw[(h.g0p z f hm).1]at hi;cases hi;exact Qf _ _ _
 ·by_cases hx:∃x∈l,x.j=i∧∃fw cw ρw σw,x.st = .run fw cw ρw σw
  ·obtain⟨x,hx,rfl,fw,cw,ρw,σw,hst⟩:=hx
   obtain⟨y,hy,his⟩:=(h.run x hx _ _ _ _ hst).g
   rw[hy]at hi;cases hi;exact Ip his.1
  ·have:=h.oth i g hi0 (fun x hxl e=>by
    cases hst:x.st with
    | run fw cw ρw σw=>exact absurd ⟨x,hxl,e,fw,cw,ρw,σw,hst⟩ hx
    | sent v ρw p=>exact⟨v,ρw,p,rfl⟩) hi
   rcases this.status with hs|hs<;>intro t e<;>rw[hs]at e<;>cases e
theorem PhN.offers{j:Nat}{send:Bool}(h:PhN P W0 fr cs ρ σ c k l B r A0 S0 mp gs w t q)(hj:j=0∨mp=none):∀i y,i≠j→gs[i]?=some y→offersAt y c send=[]:=fun i y hij hy=>by
 by_cases hi0:i=0
 ·subst hi0
  rcases hj with hj|hj
  ·exact absurd hj.symm hij
  ·obtain⟨x,hx,his⟩:=h.g0 hj
   rw[hx]at hy;cases hy;exact offersAt_of_not_blocked (by rw[his.1];simp) c send
 ·by_cases hx:∃x∈l,x.j=i∧∃fw cw ρw σw,x.st = .run fw cw ρw σw
  ·obtain⟨x,hx,rfl,fw,cw,ρw,σw,hst⟩:=hx
   obtain⟨z,hz,his⟩:=(h.run x hx _ _ _ _ hst).g
   rw[hz]at hy;cases hy;exact offersAt_of_not_blocked (by rw[his.1];simp) c send
  ·exact Gi (h.oth i y hi0 (fun x hxl e=>by
    cases hst:x.st with
    | run fw cw ρw σw=>exact absurd ⟨x,hxl,e,fw,cw,ρw,σw,hst⟩ hx
    | sent v ρw p=>exact⟨v,ρw,p,rfl⟩) hy)
theorem PhN.room{x:WK}{fw:Frame}{cw:List Frame}{ρw:Ro}{σw:Own}(h:PhN P W0 fr cs ρ σ c k l B r A0 S0 mp gs w t q)(hx:x∈l)(hst:x.st = .run fw cw ρw σw):B.length<l.length:=by
 have hn:(x.j::B.map Prod.fst).Nodup:=by
  refine Lr.2 ⟨fun hb=>?_,h.bn⟩
  obtain⟨⟨j,v'⟩,hb,e⟩:=Gb.1 hb
  obtain⟨y,hy,a,d,p,b⟩:=h.buf j v' hb
  have:=Mk h.jn hy hx (a.trans e)
  subst this
  rw[hst]at b;cases b
 have:=Zi (m:=l.map (·.j)) hn fun j hj=>by
  rcases lZ5.1 hj with rfl|hj
  ·exact Im (f:=(·.j)) hx
  ·obtain⟨⟨j',v'⟩,hb,rfl⟩:=Gb.1 hj
   obtain⟨y,hy,a,_⟩:=h.buf j' v' hb
   exact a ▸ Im (f:=(·.j)) hy
 simp only[lZ7,Abh]at this
 omega
/-- BESIDE WORKERS: it is enough to look at the first goroutine's step (if it runs),and at what follows its receive (if it waits for one). -/
theorem Ahl{i0:Nat}{Rs:List (Value→Ro→Prop)}(hi0:σ[i0]?=some (c,Res.crowd k Rs))
  (hmain:mp=none→∀l B r A0 S0 gs w sl t q,l≠[]→(∀x∈l,Live P c x)→PhN P W0 fr cs ρ σ c k l B r A0 S0 none gs w t q→Out P Pst gs t (runT P (crowd gs w sl) 0))
  (hrecv:∀z f,mp=some (z,f)→∀(l:List WK) (i:Nat) (x:WK) v ρw ρ' B r A0 S0 gs w sl t q,(∀y∈l,Live P c y)→l.map (·.R)=Rs→l[i]?=some x→x.R v ρw→Ro.le ρ ρ'→Ro.le ρw ρ' →
   PhN P W0 (fr.finish (recvd f v true)) cs ρ' (σ.set i0 (c,.crowd k ((l.eraseIdx i).map (·.R)))) c k (l.eraseIdx i) B r A0 S0 none gs w t q→My P Pst (crowd gs w sl) t) :
  ∀l,l≠[]→(∀x∈l,Live P c x)→∀B r A0 S0 gs w sl t q,PhN P W0 fr cs ρ σ c k l B r A0 S0 mp gs w t q→My P Pst (crowd gs w sl) t:=by
 intro l hne E
 refine Ajf (P:=P) (c:=c) l.length (fun l=>l≠[]→(∀x∈l,Live P c x)→∀B r A0 S0 gs w sl t q,PhN P W0 fr cs ρ σ c k l B r A0 S0 mp gs w t q→My P Pst (crowd gs w sl) t) ?_ l rfl E hne E
 clear hne E l
 intro l hs hne E
 have key:∀(m:Nat) B r A0 S0 gs w sl t q,sumTo gs.size q≤m→PhN P W0 fr cs ρ σ c k l B r A0 S0 mp gs w t q→My P Pst (crowd gs w sl) t:=by
  have work:∀B r A0 S0 gs w sl t q,PhN P W0 fr cs ρ σ c k l B r A0 S0 mp gs w t q→∀x∈l,∀fw cw ρw σw,x.st = .run fw cw ρw σw→Out P Pst gs t (runT P (crowd gs w sl) x.j):=by
   intro B r A0 S0 gs w sl t q h x hx fw cw ρw σw hst
   obtain⟨i,hi⟩:=We hx
   obtain⟨K,hf,hk⟩:=hs i x hi
   unfold Bcw at hf
   rw[hst]at hf
   obtain⟨ρ',σ',hg,hf⟩:=hf
   have X:∀x',l.set i x'≠[]:=fun x' e=>by
    have:=congrArg List.length e
    simp only[Ox,Ic]at this
    exact hne (Za this)
   have N:∀x',Live P c x'→∀y∈l.set i x',Live P c y:=fun x' hx' y hy=>by
    rcases List.mem_or_eq_of_mem_set hy with h|rfl
    ·exact E y h
    ·exact hx'
   have C:=h.ghostw hg hi hst
   have L:(l.set i {x with st:=.run fw cw ρ' σ'})[i]?=some {x with st:=.run fw cw ρ' σ'}:=by
    have hlt:i<l.length:=by
     rcases Mi i l.length with h'|h'
     ·exact h'
     ·rw[Lo h']at hi;cases hi
    rw[Oa];simp[hlt]
   have hR:=C.run _ (Ej hi) fw cw ρ' σ' rfl
   obtain⟨g,hgj,his⟩:=hR.g
   have hgj:gs[x.j]?=some g:=hgj
   have hb:(x.j==0)=false:=by simpa using h.j0 x hx
   rcases hf with⟨K0,a3,I⟩|⟨v,z,hat,hv,⟨n,hq⟩,I⟩
   ·obtain⟨fw',cw',w',es,σw',e1,e2,e3,e4⟩:=a3 w hR.sat
    refine .inl ⟨_,_,runT_crowd_go hgj (by rw[hb,his.step];exact e1),?_⟩
    have F:=C.work L rfl e2 e3 g hgj (Is.of fw' cw') g.frame.fn g.frame.place
    rw[Aoy]at F
    obtain⟨H,D⟩:=hk _ (I _ _ _ e4 (fun b=>x.A b∨(w.heap.size≤b∧b<w'.heap.size)))
    exact D (X _) (N _ H) _ _ _ _ _ _ _ _ _ F
   ·have V:stepG P (x.j==0) g w = .comm (G fw cw) #[scase c v z] true .send w #[]:=by rw[hb,his.step];exact hat w
    obtain⟨cap,tm,hch,U⟩:=h.ch
    have hrm:=h.room hx hst
    have ee:MemOp.ofEvents x.j g.frame.fn g.frame.place #[] = #[]:=rfl
    cases hmp:mp with
    | none =>
     subst hmp
     have hp:partners (gs.setIfInBounds x.j ph) c false=[]:=Io (h.offers (.inr rfl))
     refine .inl ⟨_,_,crowd_send_room hgj V hch (by simp;omega) hp,?_⟩
     rw[ee,Rk]
     have F:=C.send (tm:=tm) (fn:=(G fw cw).frame.fn) (fn':=(G fw cw).frame.fn) (pos:=(G fw cw).frame.place) (pos':=(G fw cw).frame.place) L rfl hv hq (by simpa using U)
     rw[Aoy]at F
     obtain⟨H,D⟩:=hk _ (I t.size)
     exact D (X _) (N _ H) _ _ _ _ _ _ _ _ _ F
    | some zf =>
     obtain⟨z0,f⟩:=zf
     subst hmp
     obtain⟨M,hB⟩:=h.g0p z0 f rfl
     subst hB
     have hp:partners (gs.setIfInBounds x.j ph) c false=[(0,0)]:=by
      rw[partners_one (stand_get (Ne.symm (h.j0 x hx)) M) fun m y hm hy=>?_]
      ·simp[offersAt_parked_recv]
      ·rcases getElem?_stand gs x.j m y hy with⟨_,rfl⟩|⟨hmj,hy⟩
       ·rfl
       ·by_cases hxx:∃x∈l,x.j=m∧∃fw cw ρw σw,x.st = .run fw cw ρw σw
        ·obtain⟨x',hx',rfl,_,_,_,_,T⟩:=hxx
         obtain⟨z',hz',a0⟩:=(h.run x' hx' _ _ _ _ T).g
         rw[hz']at hy;cases hy;exact offersAt_of_not_blocked (by rw[a0.1];simp) c false
        ·exact Gi (h.oth m y hm (fun x' hxl e=>by
          cases T:x'.st with
          | run fw cw ρw σw=>exact absurd ⟨x',hxl,e,fw,cw,ρw,σw,T⟩ hxx
          | sent v ρw p=>exact⟨v,ρw,p,rfl⟩) hy)
     refine .inl ⟨_,_,crowd_send_meets hgj V hch (Ne.symm (h.j0 x hx)) M hp,?_⟩
     rw[ee,Rk]
     generalize hu:(#[{g:=x.j,fn:=(G fw cw).frame.fn,pos:=(G fw cw).frame.place,act:=.send c (r+([]:List (Nat×Value)).length)},{g:=0,fn:=(G fr cs).frame.fn,pos:=(G fr cs).frame.place,act:=.recv c r cap},
      {g:=x.j,fn:=(G fw cw).frame.fn,pos:=(G fw cw).frame.place,act:=.sendDone c (r+([]:List (Nat×Value)).length)},{g:=0,fn:=(G fr cs).frame.fn,pos:=(G fr cs).frame.place,act:=.recvDone c r}]:Trace)=u
     have W:∀op∈u,op.act.touch?=none:=fun op hop=>by
      subst hu
      simp only[Abg,lZ5,Ow,or_false]at hop
      rcases hop with rfl|rfl|rfl|rfl<;>rfl
     have hwl:Wordless u:=fun op hop m hm=>by
      subst hu
      simp only[Abg,lZ5,Ow,or_false]at hop
      rcases hop with rfl|rfl|rfl|rfl<;>cases hm
     have Y:=h.wl.append hwl
     have J:(t++u)[t.size]?=some {g:=x.j,fn:=(G fw cw).frame.fn,pos:=(G fw cw).frame.place,act:=.send c r}:=by rw[Zb (Dp _)];subst hu;simp
     have O:(t++u)[t.size+3]?=some {g:=0,fn:=(G fr cs).frame.fn,pos:=(G fr cs).frame.place,act:=.recvDone c r}:=by rw[Zb (by omega)];subst hu;simp
     have hpq:HappensBefore (t++u) t.size (t.size+3):=.single (.inr ⟨.handOver (c:=c) (k:=r) (by simp[Trace.act?,J]) (by simp[Trace.act?,O]),Y.heard J,Y.heard O⟩)
     have hRs:l.map (·.R)=Rs:=by
      have:=h.sat.uniq h.hc (lZ3 hi0)
      injection this
     have hmR:(l.set i {x with st:=.run fw cw ρ' σ'}).map (·.R)=l.map (·.R):=Lu hi rfl
     have hiR:σ[i0]?=some (c,Res.crowd k ((l.set i {x with st:=.run fw cw ρ' σ'}).map (·.R))):=by rw[hmR,hRs];exact hi0
     obtain⟨ρ'',q1,q2,H⟩:=C.take (i:=i) (i0:=i0) (p:=t.size) (q0:=t.size+3) (rv:=recvd f v true) (ρw:=ρ') (B':=[]) (cap:=cap) (tm:=tm) (u:=u) (q':=Go.ConcN.upd q x.j n)
      (gs':=(gs.setIfInBounds 0 ((G fr cs).finishComm P #[rcase c z0] (.recv f) 0 v true)).setIfInBounds x.j ((G fw cw).finishComm P #[scase c v z] .send 0 undef false))
      L hiR (by simpa using U) hR.sat.ro hR.rw_ (hR.kn.told W (Dp _) J rfl) W hwl O rfl hpq (fun m hm=>by
       obtain⟨op,D,h5⟩:=hm
       have hlt:=lt_size_of_getElem? D
       exact .inr (hb_po hlt (by rw[getElem?_append_old hlt];exact D) J h5)) (.inl ⟨rfl,rfl⟩)
      ⟨_,by rw[Dw (Ne.symm (h.j0 x hx)),Fq M],by rw[finishComm_recv];exact(Is.of fr cs).served _⟩ (by simp) (fun m a1 hmx=>by rw[Dw hmx,Dw a1])
      (fun y hy=>by
       have h6:((gs.setIfInBounds 0 ((G fr cs).finishComm P #[rcase c z0] (.recv f) 0 v true)).setIfInBounds x.j ((G fw cw).finishComm P #[scase c v z] .send 0 undef false))[x.j]?=some ((G fw cw).finishComm P #[scase c v z] .send 0 undef false) :=
        Fq (y:=g) (by rw[Dw (h.j0 x hx)];exact hgj)
       have h7:some ((G fw cw).finishComm P #[scase c v z] .send 0 undef false)=some y:=h6.symm.trans hy
       cases h7
       show QuitsIn P (Go.ConcN.upd q x.j n x.j) _
       rw[upd_same];exact hq) (fun m hm=>upd_ne q n hm)
     refine hrecv z0 f rfl (l.set i {x with st:=.run fw cw ρ' σ'}) i {x with st:=.run fw cw ρ' σ'} v ρ' ρ'' [] (r+1) _ _ _ _ _ _ _ ?_ ?_ L hv q1 q2 H
     ·refine N _ ?_
      obtain⟨h8,_⟩:=hk _ (I t.size)
      exact .mk (fun x'=>K x') ⟨ρ',σ',.refl,.inr ⟨v,z,hat,hv,⟨n,hq⟩,I⟩⟩ fun x' hx'=>(hk x' hx').1
     ·rw[hmR,hRs]
  have Z:∀B r A0 S0 gs w sl t q,PhN P W0 fr cs ρ σ c k l B r A0 S0 mp gs w t q →
    (∀i g d sl',i≠0→(∀x∈l,x.j=i→∃v ρw p,x.st = .sent v ρw p)→gs[i]?=some g→g.status = .running→Out P Pst gs t (runT P (crowd gs (w.at d) sl') i))→My P Pst (crowd gs w sl) t:=by
   intro B r A0 S0 gs w sl t q h hq
   refine Jn h.awake ?_ fun i g d sl' hi hg=>?_
   ·cases hmp:mp with
    | none=>obtain⟨x,hx,his⟩:=h.g0 hmp;exact⟨0,x,hx,his.1⟩
    | some zf =>
     obtain⟨z,f⟩:=zf
     obtain⟨_,hB⟩:=h.g0p z f hmp
     obtain⟨x,l',rfl⟩:=List.exists_cons_of_ne_nil hne
     cases hst:x.st with
     | run fw cw ρw σw =>
      obtain⟨y,hy,his⟩:=(h.run x mC _ _ _ _ hst).g
      exact⟨_,y,hy,his.1⟩
     | sent v ρw p =>
      obtain⟨m,op,C,_⟩:=(h.sent x mC _ _ _ hst).at_
      rw[hB]at C;cases C
   ·by_cases a:i=0
    ·subst a
     cases hmp:mp with
     | none=>subst hmp;exact hmain rfl l B r A0 S0 gs _ sl' t q hne E (h.at_ d)
     | some zf=>obtain⟨z,f⟩:=zf;rw[(h.g0p z f hmp).1]at hi;cases hi;cases hg
    ·by_cases hx:∃x∈l,x.j=i∧∃fw cw ρw σw,x.st = .run fw cw ρw σw
     ·obtain⟨x,hx,rfl,fw,cw,ρw,σw,hst⟩:=hx
      exact work B r A0 S0 gs _ sl' t q (h.at_ d) x hx fw cw ρw σw hst
     ·exact hq i g d sl' a (fun x hxl e=>by
       cases hst:x.st with
       | run fw cw ρw σw=>exact absurd ⟨x,hxl,e,fw,cw,ρw,σw,hst⟩ hx
       | sent v ρw p=>exact⟨v,ρw,p,rfl⟩) hi hg
  intro m
  induction m with
  | zero =>
   intro B r A0 S0 gs w sl t q hm h
   refine Z B r A0 S0 gs w sl t q h fun i g d sl' a hil hi hg=>?_
   obtain⟨g',n,hk,_⟩:=Hf (w:=w) (sl:=sl) hi a hg (h.oth i g a hil hi)
   have:=Go.ConcN.le_sumTo (f:=q) (Wd.1 hi).1
   omega
  | succ m ih =>
   intro B r A0 S0 gs w sl t q hm h
   refine Z B r A0 S0 gs w sl t q h fun i g d sl' a hil hi hg=>?_
   obtain⟨g',n,hk,hq,a2⟩:=Hf (w:=w.at d) (sl:=sl') hi a hg (h.oth i g a hil hi)
   refine .inl ⟨_,_,a2,?_⟩
   rw[Sn]
   exact ih _ _ _ _ _ _ sl' t _ (by simpa using Zl hi hk hm) ((h.at_ d).leave hi a hil hq)
 exact fun B r A0 S0 gs w sl t q h=>key _ B r A0 S0 gs w sl t q (Dp _) h
end
end
section
open Go Go.Conc Go.RowKit
open Go.ConcN (sumTo sumTo_upd upd_ne upd_same)
/-- The first goroutine stands at the step that ends the run;nobody is left to talk to. -/
def Agg(P:Program)(W0:World)(Pst:Value→World→Prop):Cy:=fun fr cs ρ σ =>
 NoRecv σ∧∀W,Sat ρ σ W→Below W0.heap.size W0 W→(∀b∈keys σ,W0.heap.size≤b)→∃v W' es,stepG P true (G fr cs) W = .ended (.done v) W' es∧(∀e∈es,Rz ρ σ e)∧Pst v W'
section
variable{P:Program}{Pst:Value→World→Prop}{W0:World}{fr:Frame}{cs:List Frame}{ρ:Ro}{σ:Own}
/-- The three things that are shown of a place in the first goroutine's walk. -/
structure Fine(P:Program)(W0:World)(Pst:Value→World→Prop)(fr:Frame)(cs:List Frame)(ρ:Ro)(σ:Own):Prop where
 A:∀gs w sl t q,PhA P W0 fr cs ρ σ gs w t q→My P Pst (crowd gs w sl) t
 B:∀c vs j Am Aw Sh fw cw ρw σw wp gs w sl t q,WGo P c vs fw cw ρw σw wp→PhB P W0 fr cs ρ σ c vs fw cw ρw σw j Am Aw Sh none wp gs w t q→My P Pst (crowd gs w sl) t
 C:∀c j Am Aw Sh pc gs w sl t q,PhC P W0 fr cs ρ σ c j Am Aw Sh pc gs w t q→My P Pst (crowd gs w sl) t
 N:∀c k l B r A0 S0 gs w sl t q,l≠[]→(∀x∈l,Live P c x)→PhN P W0 fr cs ρ σ c k l B r A0 S0 none gs w t q→My P Pst (crowd gs w sl) t
/-- It is enough to look at the first goroutine's own step. -/
theorem Pv(hA:∀gs w sl t q,PhA P W0 fr cs ρ σ gs w t q→Out P Pst gs t (runT P (crowd gs w sl) 0))
  (hC:∀c j Am Aw Sh pc gs w sl t q,PhC P W0 fr cs ρ σ c j Am Aw Sh pc gs w t q→Out P Pst gs t (runT P (crowd gs w sl) 0))
  (hB:(∀c j Am Aw Sh pc gs w sl t q,PhC P W0 fr cs ρ σ c j Am Aw Sh pc gs w t q→My P Pst (crowd gs w sl) t) →
   ∀c vs j Am Aw Sh fw cw ρw σw wp gs w sl t q,WGo P c vs fw cw ρw σw wp→PhB P W0 fr cs ρ σ c vs fw cw ρw σw j Am Aw Sh none wp gs w t q→Out P Pst gs t (runT P (crowd gs w sl) 0))
  (hN:∀c k l B r A0 S0 gs w sl t q,l≠[]→(∀x∈l,Live P c x)→PhN P W0 fr cs ρ σ c k l B r A0 S0 none gs w t q→Out P Pst gs t (runT P (crowd gs w sl) 0)):Fine P W0 Pst fr cs ρ σ:=by
 have hC':∀c j Am Aw Sh pc gs w sl t q,PhC P W0 fr cs ρ σ c j Am Aw Sh pc gs w t q→My P Pst (crowd gs w sl) t:=by
  intro c j Am Aw Sh pc gs w sl t q h
  obtain⟨g,hg,his⟩:=h.g0
  have hw:crowd gs w sl=crowd gs (w.at w.drawn) sl:=rfl
  rw[hw]
  refine Yg (g0:=g) (sz:=gs.size) his.1 (fun gs' q' d sl' a hsz ho=>?_) _ gs _ sl q (Dp _) rfl hg h.oth
  exact hC c j Am Aw Sh pc gs' (w.at d) sl' t q' {(h.at_ d) with g0:=⟨g,a,his⟩,oth:=ho}
 refine⟨?_,?_,hC',?_⟩
 ·intro gs w sl t q h
  obtain⟨g,hg,his⟩:=h.g0
  have hw:crowd gs w sl=crowd gs (w.at w.drawn) sl:=rfl
  rw[hw]
  refine Yg (g0:=g) (sz:=gs.size) his.1 (fun gs' q' d sl' a hsz ho=>?_) _ gs _ sl q (Dp _) rfl hg h.oth
  exact hA gs' (w.at d) sl' t q' {(h.at_ d) with g0:=⟨g,a,his⟩,oth:=ho}
 ·intro c vs j Am Aw Sh fw cw ρw σw wp gs w sl t q hW h
  cases wp with
  | none =>
   exact Ti hW Am σ (fun _ gs w sl t q fw cw ρw σw Aw wp hW h=>hB hC' c _ j Am Aw Sh fw cw ρw σw wp gs w sl t q hW h) (fun z v vs' e=>by cases e)
    (fun e gs w sl t q Aw pc h=>hC' c j Am Aw Sh pc gs w sl t q h) _ gs w sl t q Aw (Dp _) h
  | some z =>
   obtain⟨v,z⟩:=z
   exact Adj (fun gs w sl t q h=>hB hC' c _ j Am Aw Sh fw cw ρw σw (some (v,z)) gs w sl t q hW h) _ gs w sl t q (Dp _) h
 ·intro c k l B r A0 S0 gs w sl t q hne p h
  obtain⟨i,hi⟩:=We h.hc
  exact Ahl hi (fun _ l B r A0 S0 gs w sl t q b m n=>hN c k l B r A0 S0 gs w sl t q b m n) (fun z f e=>by cases e) l hne p B r A0 S0 gs w sl t q h
theorem Fine.ghost{ρ':Ro}{σ':Own}(hg:Ghost ρ σ ρ' σ')(h:Fine P W0 Pst fr cs ρ' σ'):Fine P W0 Pst fr cs ρ σ :=
 ⟨fun gs w sl t q h'=>h.A gs w sl t q (h'.ghost hg),fun c vs j Am Aw Sh fw cw ρw σw wp gs w sl t q hW h'=>h.B c vs j Am Aw Sh fw cw ρw σw wp gs w sl t q hW (h'.ghost hg),
  fun c j Am Aw Sh pc gs w sl t q h'=>h.C c j Am Aw Sh pc gs w sl t q (h'.ghost hg),fun c k l B r b d gs w sl t q a e h'=>h.N c k l B r b d gs w sl t q a e (h'.ghost hg a)⟩
theorem Aew{K:Frame→List Frame→Own→Prop}(hst:Aal (Iw P) fr cs ρ σ K)(hK:∀fr' cs' σ',K fr' cs' σ'→Fine P W0 Pst fr' cs' ρ σ'):Fine P W0 Pst fr cs ρ σ:=by
 refine Pv (fun gs w sl t q h=>?_) (fun c j Am Aw Sh pc gs w sl t q h=>?_) (fun _ c vs j Am Aw Sh fw cw ρw σw wp gs w sl t q hW h=>?_) (fun c k l B r i m gs w sl t q hne f h=>?_)
 ·obtain⟨g,hg,his⟩:=h.g0
  obtain⟨fr',cs',w',es,σ',a,b,d,e⟩:=hst w h.sat
  have a:stepG P true (G fr cs) w = .go (G fr' cs') w' es:=a
  refine .inl ⟨_,_,runT_crowd_go hg (show stepG P (0==0) g w=_ from (his.step w).trans a),?_⟩
  exact(hK _ _ _ e).A _ _ _ _ _ (h.main b d g hg (Is.of _ _) _ _)
 ·obtain⟨g,hg,his⟩:=h.g0
  obtain⟨fr',cs',w',es,σ',a,b,d,e⟩:=hst w h.sat
  have a:stepG P true (G fr cs) w = .go (G fr' cs') w' es:=a
  refine .inl ⟨_,_,runT_crowd_go hg (show stepG P (0==0) g w=_ from (his.step w).trans a),?_⟩
  exact(hK _ _ _ e).C _ _ _ _ _ _ _ _ _ _ _ (h.main b d g hg (Is.of _ _) _ _)
 ·obtain⟨g,hg,his⟩:=h.g0 rfl
  obtain⟨fr',cs',w',es,σ',a,b,d,e⟩:=hst w h.sat
  have a:stepG P true (G fr cs) w = .go (G fr' cs') w' es:=a
  refine .inl ⟨_,_,runT_crowd_go hg (show stepG P (0==0) g w=_ from (his.step w).trans a),?_⟩
  exact(hK _ _ _ e).B _ _ _ _ _ _ _ _ _ _ _ _ _ _ _ _ hW (h.main b d g hg (Is.of _ _) _ _)
 ·obtain⟨g,hg,his⟩:=h.g0 rfl
  obtain⟨fr',cs',w',es,σ',a,b,d,e⟩:=hst w h.sat
  have a:stepG P true (G fr cs) w = .go (G fr' cs') w' es:=a
  refine .inl ⟨_,_,runT_crowd_go hg (show stepG P (0==0) g w=_ from (his.step w).trans a),?_⟩
  exact(hK _ _ _ e).N _ _ _ _ _ _ _ _ _ _ _ _ hne f (h.main b d g hg (Is.of _ _) _ _)
/-- Nobody is there from whom something is still to come. -/
theorem PhN.calm{c k r:Nat}{l:List WK}{B:List (Nat×Value)}{A0 S0:Nat→Prop}{mp:Option (Value×Bool)}{gs:Array Goroutine}{w:World}{t:Trace}{q:Nat→Nat}(h:PhN P W0 fr cs ρ σ c k l B r A0 S0 mp gs w t q)(hne:l≠[])(hn:NoRecv σ):False :=
 hne (by simpa using hn.crowd _ _ _ h.hc)
theorem Aex(h:Agg P W0 Pst fr cs ρ σ):Fine P W0 Pst fr cs ρ σ:=by
 obtain⟨hn,hs⟩:=h
 refine Pv (fun gs w sl t q h=>?_) (fun c j Am Aw Sh pc gs w sl t q h=>absurd h.hc (hn.recv _ _)) (fun _ c vs j Am Aw Sh fw cw ρw σw wp gs w sl t q hW h=>absurd h.hc (hn.recv _ _)) (fun c k l B r f i gs w sl t q hne m h=>(h.calm hne hn).elim)
 obtain⟨g,hg,his⟩:=h.g0
 obtain⟨v,W',es,a,b,d⟩:=hs w h.sat h.below h.newk
 refine .inr ⟨_,_,_,runT_many_ended hg (show stepG P (0==0) g w=_ from (his.step w).trans a),fun p n=>?_⟩
 obtain⟨o1,e⟩:=Abe b 0 g.frame.fn g.frame.place
 have htr:=h.tr.own o1 fun op hop=>(e op hop).1
 refine⟨v,rfl,d,htr.clean,htr.handed,⟨fun x hx=>?_,rfl⟩,fun j x hx hj=>?_⟩
 ·obtain⟨j,hj⟩:=Aom.1 hx
  rw[Zd]at hj
  exact⟨_,(h.oth (1+j) x (by omega) (by simpa[crowd]using hj)).leaves⟩
 ·have hq:=h.oth j x hj hx
  refine⟨q j,?_⟩
  rw[htr.wl.deaf]
  exact hq.hears _ _
theorem Aeu{d:Deferred}{i c:Nat}{vs:List Value}{fr':Frame}(hst:∀W,stepG P true (G fr cs) W = .spawn (G fr' cs) (G (Gg P d) []) W #[])(hn:NoRecv σ)(hi:σ[i]?=some (c,Res.chan))(hS:SendI P c vs (Gg P d) [] ρ [])
  (hK:Fine P W0 Pst fr' cs ρ (σ.set i (c,.recv vs))):Fine P W0 Pst fr cs ρ σ:=by
 have hc:(c,Res.chan)∈σ:=lZ3 hi
 refine Pv (fun gs w sl t q h=>?_) (fun c j Am Aw Sh pc gs w sl t q h=>absurd h.hc (hn.recv _ _)) (fun _ c vs j Am Aw Sh fw cw ρw σw wp gs w sl t q hW h=>absurd h.hc (hn.recv _ _)) (fun c k l B r D E gs w sl t q hne F h=>(h.calm hne hn).elim)
 obtain⟨g,hg,his⟩:=h.g0
 refine .inl ⟨_,_,runT_crowd_spawn hg (show stepG P (0==0) g w=_ from (his.step w).trans (hst w)),?_⟩
 have hsz:0<gs.size:=(Wd.1 hg).1
 have m:=Tt (r':=Res.recv vs) hi
 have a:∀p,p∈σ.set i (c,Res.recv vs)→p=(c,.recv vs)∨(p∈σ∧p.1≠c):=fun p hp=>Gq hi h.sat.nd hp
 obtain⟨s,r,tm,hch⟩:=h.sat.own _ hc
 have C:(c,Res.recv vs)∈σ.set i (c,.recv vs):=by
  have hlt:i<σ.length:=by
   rcases Mi i σ.length with h'|h'
   ·exact h'
   ·rw[Lo h']at hi;cases hi
  exact lZ3 (i:=i) (by rw[Oa];simp[hlt])
 refine hK.B c vs gs.size (fun b=>∃x,(b,x)∈σ∧b≠c) (fun _=>False) (fun b=>(ρ b).isSome=true) (Gg P d) [] ρ [] none _ _ _ _ q hS {
  g0:=fun _=>⟨G fr' cs,by rw[Aml];simp only[Aiv,Aja hsz,if_false];exact Fq hg,Is.of _ _⟩
  g0p:=fun z e=>by cases e
  gj:=fun _=>⟨G (Gg P d) [],by rw[Aml];simp,Is.of _ _⟩
  gjp:=fun v z e=>by cases e
  j0:=by omega
  oth:=fun k x hk hkj hx=>by
   have hk':gs[k]?=some x:=by
    rw[Aml]at hx
    simp only[Aiv,hkj,if_false]at hx
    rwa[Arf (Ne.symm hk)]at hx
   exact h.oth k x hk hk'
  sat:=?_
  satw:=⟨h.sat.ro,fun p hp=>absurd hp Ow,Acs,fun b hb=>absurd hb Ow⟩
  ch:=⟨s,r,tm,hch⟩
  hc:=C
  one:=fun c' vs' hc'=>by
   rcases a _ hc' with e|⟨hc'',_⟩
   ·injection e
   ·exact absurd hc'' (hn.recv _ _)
  nrw:=.nil
  ncr:=fun c' k Rs hc'=>by
   rcases a _ hc' with e|⟨hc'',_⟩
   ·cases e
   ·exact hn.crowd _ _ _ hc''
  newk:=by rw[m];exact h.newk
  neww:=fun b hb=>by cases hb
  below:=h.below
  am:=fun b x hb hx=>by
   rcases a _ hb with e|⟨hb',hbc⟩
   ·injection e with _ e;exact absurd e (hx vs)
   ·exact⟨x,hb',hbc⟩
  aw:=fun b hb=>by cases hb
  rm:=fun b hb=>.inl hb
  rw_:=fun b hb=>.inl hb
  dmw:=fun b _ h=>h
  dms:=fun b ⟨x,f,_⟩ n=>by rw[h.sat.dj b (Du f)]at n;cases n
  dws:=fun b h _=>h
  ncm:=fun⟨x,_,f⟩=>f rfl
  ncw:=id
  ncs:=by rw[h.sat.dj c (Du hc)];simp
  lt:=fun b hb=>by
   rcases hb with⟨x,hb,_⟩|hb|hb
   ·exact h.sat.key_lt (Du hb)
   ·exact hb.elim
   ·obtain⟨o,ho⟩:=Amj.1 hb
    exact Dq (h.sat.ro b o ho).1
  tr:=?_ }
 ·refine⟨h.sat.ro,fun p hp=>?_,by rw[m];exact h.sat.nd,by rw[m];exact h.sat.dj⟩
  rcases a p hp with rfl|⟨hp',_⟩
  ·exact⟨s,r,false,tm,hch⟩
  ·exact h.sat.own p hp'
 ·have u:MemOp.ofEvents 0 g.frame.fn g.frame.place #[] = #[]:=rfl
  rw[u]
  exact h.tr.fork (by omega) (x:={g:=0,fn:=g.frame.fn,pos:=g.frame.place,act:=.go gs.size}) (y:={g:=gs.size,fn:=(G (Gg P d) []).frame.fn,pos:=g.frame.place,act:=.start}) ⟨rfl,rfl⟩ ⟨rfl,rfl⟩
theorem Aev{i c:Nat}{v z:Value}{vs:List Value}(hst:Sv P c z fr cs)(hi:σ[i]?=some (c,Res.recv (v::vs)))
  (hK:Fine P W0 Pst (fr.finish (.tuple #[v,.bool true])) cs ρ (σ.set i (c,.recv vs))):Fine P W0 Pst fr cs ρ σ:=by
 have hc:(c,Res.recv (v::vs))∈σ:=lZ3 hi
 refine Pv (fun gs w sl t q h=>absurd hc (h.nr.recv _ _)) (fun c' j Am Aw Sh pc gs w sl t q h=>?_) (fun hC c' vs' j Am Aw Sh fw cw ρw σw wp gs w sl t q hW h=>?_) (fun c' k l B r n u gs w sl t q _ _ h=>absurd hc (h.nr _ _))
 ·obtain rfl:=h.one _ _ hc
  exact absurd (h.sat.uniq hc h.hc) (by simp)
 ·obtain rfl:=h.one _ _ hc
  have e:vs'=v::vs:=by
   have:=h.sat.uniq h.hc hc
   injection this
  subst e
  obtain⟨g,hg,his⟩:=h.g0 rfl
  obtain⟨s,r,tm,hch⟩:=h.ch
  have b:stepG P (0==0) g w = .comm (G fr cs) #[rcase c z] true (.recv true) w #[]:=(his.step w).trans (hst w)
  cases wp with
  | none =>
   obtain⟨x,hx,d⟩:=h.gj rfl
   have hp:partners (gs.setIfInBounds 0 ph) c true=[]:=Io fun k y hk hy=>by
    by_cases hkj:k=j
    ·subst hkj;rw[hx]at hy;cases hy;exact offersAt_of_not_blocked (by rw[d.1];simp) c true
    ·exact Gi (h.oth k y hk hkj hy)
   refine .inl ⟨_,_,crowd_waits hg b fun cc hcc=>?_,?_⟩
   ·have:cc=rcase c z:=by simpa using hcc
    subst this
    exact ways_recv_none hch hp
   ·have a:MemOp.ofEvents 0 g.frame.fn g.frame.place #[] = #[]:=rfl
    rw[a,Sn]
    refine Ti (mp:=some z) (fr:=fr) (cs:=cs) (ρ:=ρ) (j:=j) (Sh:=Sh) (W0:=W0) hW Am σ (fun e=>by cases e) (fun z' v' vs' _ e=>?_) (fun e=>by cases e) _ _ _ _ _ q Aw (Dp _) ?_
    ·injection e with a e2
     subst a e2
     exact⟨i,hi,fun gs w sl t q fw cw ρw σw Aw hS h'=>hK.B _ _ _ _ _ _ _ _ _ _ _ _ _ _ _ _ (show WGo P c vs fw cw ρw σw none from hS) h'⟩
    ·exact { h with
      g0:=fun e=>by cases e
      g0p:=fun z' e=>by cases e;exact Fq hg
      gj:=fun _=>⟨x,by rw[Dw h.j0];exact hx,d⟩
      gjp:=fun v z e=>by cases e
      oth:=fun k y hk hkj hy=>by rw[Dw hk]at hy;exact h.oth k y hk hkj hy }
  | some p =>
   obtain⟨C,z0⟩:=p
   obtain⟨D,e,hS⟩:=hW
   injection e with a e2
   subst a e2
   have hj:=h.gjp v z0 rfl
   have hp:partners (gs.setIfInBounds 0 ph) c true=[(j,0)]:=by
    rw[partners_one (stand_get h.j0 hj) fun k y hk hy=>?_]
    ·simp[offersAt_parked_send]
    ·rcases getElem?_stand gs 0 k y hy with⟨_,rfl⟩|⟨f,hy⟩
     ·rfl
     ·exact Gi (h.oth k y f hk hy)
   refine .inl ⟨_,_,crowd_recv_meets hg b hch h.j0 hj hp,?_⟩
   refine hK.B _ _ _ _ _ _ _ _ _ _ _ _ _ _ _ q (show WGo P c vs _ cw ρw σw none from hS) (h.meet hi ?_ ?_ ?_ ?_ ?_)
   ·refine⟨_,?_,(Is.of fr cs).served _⟩
    rw[Fq (y:=g) (by rw[Dw (Ne.symm h.j0)];exact hg)]
    rfl
   ·refine⟨_,?_,(Is.of fw cw).served _⟩
    rw[Dw h.j0,Fq hj]
    rfl
   ·intro k hk hkj
    rw[Dw hk,Dw hkj]
   ·intro op hop m hm
    have:MemOp.ofEvents 0 g.frame.fn g.frame.place #[] = #[]:=rfl
    simp only[this,Rk]at hop
    simp only[Abg,lZ5,Ow,or_false]at hop
    rcases hop with rfl|rfl|rfl|rfl<;>cases hm
   ·intro op hop
    have:MemOp.ofEvents 0 g.frame.fn g.frame.place #[] = #[]:=rfl
    simp only[this,Rk]at hop
    simp only[Abg,lZ5,Ow,or_false]at hop
    rcases hop with rfl|rfl|rfl|rfl<;>rfl
theorem TC.ended{t:Trace}{j c pc:Nat}{Aw Sh:Nat→Prop}(h:TC t j c pc Aw Sh){x:MemOp}(hx:x.g=0∧x.act = .recvClosed c):TA (t ++ #[x]):=by
 have hwl:Wordless #[x]:=fun op hop m hm=>by
  have:op=x:=by simpa using hop
  subst this;rw[hx.2]at hm;cases hm
 have k:∀op ∈ #[x],op.act.touch?=none:=fun op hop=>by
  have:op=x:=by simpa using hop
  subst this;rw[hx.2];rfl
 have b:=h.wl.append hwl
 have d:(t ++ #[x])[t.size]?=some x:=by rw[Zb (Dp _)];simp
 obtain⟨op,e,q,n⟩:=h.at_
 have hpc:=lt_size_of_getElem? e
 have f:(t ++ #[x])[pc]?=some op:=by rw[getElem?_append_old hpc];exact e
 have hcl:HappensBefore (t ++ #[x]) pc t.size:=.single (.inr ⟨.closed (c:=c) (by rw[Trace.act?,f];simp[n]) (by rw[Trace.act?,d];simp[hx.2]),b.heard f,b.heard d⟩)
 refine⟨b,fun p=>Ni (h.clean p) k,fun i a ha hm=>?_⟩
 rcases Di ha with h4|⟨op,_,h4,h5,_⟩
 ·rcases h.k0 i a h4 hm with h5|⟨h5,_⟩
  ·exact h5.app _
  ·exact⟨t.size,x,d,hx.1,.inr ((h5.app _).hb hcl)⟩
 ·rw[k op h4]at h5;cases h5
theorem Ph{σ:Own}{i c:Nat}{x:Res}(hi:σ[i]?=some (c,x))(nd:(keys σ).Nodup){p:Nat×Res}(hp:p∈σ.eraseIdx i):p∈σ∧p.1≠c:=by
 induction σ generalizing i with
 | nil=>cases hi
 | cons a σ ih =>
  simp only[keys,Ez,Lr]at nd
  cases i with
  | zero =>
   simp only[Arg,Option.some.injEq]at hi
   subst hi
   simp only[List.eraseIdx_zero,List.tail_cons]at hp
   exact⟨lZ0 _ hp,fun e=>nd.1 (Gb.2 ⟨p,hp,e⟩)⟩
  | succ i =>
   simp only[Ot]at hi
   simp only[List.eraseIdx_cons_succ,lZ5]at hp
   rcases hp with rfl|hp
   ·exact⟨Me ..,fun e=>nd.1 (by rw[e];exact Gb.2 ⟨_,lZ3 hi,rfl⟩)⟩
   ·obtain⟨b,d⟩:=ih hi nd.2 hp
    exact⟨lZ0 _ b,d⟩
theorem Aet{i c:Nat}{z:Value}(hst:Sv P c z fr cs)(hi:σ[i]?=some (c,Res.recv []))
  (hK:Fine P W0 Pst (fr.finish (.tuple #[z,.bool false])) cs ρ (σ.eraseIdx i)):Fine P W0 Pst fr cs ρ σ:=by
 have hc:(c,Res.recv [])∈σ:=lZ3 hi
 refine Pv (fun gs w sl t q h=>absurd hc (h.nr.recv _ _)) (fun c' j Am Aw Sh pc gs w sl t q h=>?_) (fun hC c' vs' j Am Aw Sh fw cw ρw σw wp gs w sl t q hW h=>?_) (fun c' k l B r E F gs w sl t q _ _ h=>absurd hc (h.nr _ _))
 ·obtain rfl:=h.one _ _ hc
  obtain⟨g,hg,his⟩:=h.g0
  obtain⟨s,r,tm,hch⟩:=h.ch
  have m:stepG P (0==0) g w = .comm (G fr cs) #[rcase c z] true (.recv true) w #[]:=(his.step w).trans (hst w)
  have hp:partners (gs.setIfInBounds 0 ph) c true=[]:=Io fun k y hk hy=>Gi (h.oth k y hk hy)
  refine .inl ⟨_,_,crowd_recv_closed hg m hch hp,?_⟩
  have d:MemOp.ofEvents 0 g.frame.fn g.frame.place #[] = #[]:=rfl
  rw[d,Rk]
  have a:∀p,p∈σ.eraseIdx i→p∈σ∧p.1≠c:=fun p hp=>Ph hi h.sat.nd hp
  have u:∀b∈keys (σ.eraseIdx i),b∈keys σ:=fun b hb=>by
   obtain⟨p,hp,rfl⟩:=Gb.1 hb
   exact Im (f:=Prod.fst) (a p hp).1
  exact hK.A _ _ _ _ q {
   g0:=⟨_,by rw[Fq hg];rfl,(Is.of fr cs).served _⟩
   oth:=fun k y hk hy=>by rw[Dw hk]at hy;exact h.oth k y hk hy
   sat:=⟨h.sat.ro,fun p hp=>h.sat.own p (a p hp).1,(List.Sublist.map Prod.fst (List.eraseIdx_sublist σ i)).nodup h.sat.nd,fun b hb=>h.sat.dj b (u b hb)⟩
   nr:=⟨fun c' vs' hc'=>by
    obtain⟨C,D⟩:=a _ hc'
    exact D (h.one _ _ C),fun c' k Rs hc'=>h.ncr c' k Rs (a _ hc').1⟩
   newk:=fun b hb=>h.newk b (u b hb)
   below:=h.below
   tr:=h.tr.ended ⟨rfl,rfl⟩ }
 ·obtain rfl:=h.one _ _ hc
  have e:vs'=[]:=by
   have:=h.sat.uniq h.hc hc
   injection this
  subst e
  obtain⟨g,hg,his⟩:=h.g0 rfl
  obtain⟨s,r,tm,hch⟩:=h.ch
  have m:stepG P (0==0) g w = .comm (G fr cs) #[rcase c z] true (.recv true) w #[]:=(his.step w).trans (hst w)
  cases wp with
  | none =>
   obtain⟨x,hx,n⟩:=h.gj rfl
   have hp:partners (gs.setIfInBounds 0 ph) c true=[]:=Io fun k y hk hy=>by
    by_cases hkj:k=j
    ·subst hkj;rw[hx]at hy;cases hy;exact offersAt_of_not_blocked (by rw[n.1];simp) c true
    ·exact Gi (h.oth k y hk hkj hy)
   refine .inl ⟨_,_,crowd_waits hg m fun cc hcc=>?_,?_⟩
   ·have:cc=rcase c z:=by simpa using hcc
    subst this
    exact ways_recv_none hch hp
   ·have d:MemOp.ofEvents 0 g.frame.fn g.frame.place #[] = #[]:=rfl
    rw[d,Sn]
    refine Ti (mp:=some z) (fr:=fr) (cs:=cs) (ρ:=ρ) (j:=j) (Sh:=Sh) (W0:=W0) hW Am σ (fun e=>by cases e) (fun z' v' vs' _ e=>by cases e) (fun _ gs w sl t q Aw pc h'=>hC _ _ _ _ _ _ _ _ _ _ _ h') _ _ _ _ _ q Aw (Dp _) ?_
    exact { h with
      g0:=fun e=>by cases e
      g0p:=fun z' e=>by cases e;exact Fq hg
      gj:=fun _=>⟨x,by rw[Dw h.j0];exact hx,n⟩
      gjp:=fun v z e=>by cases e
      oth:=fun k y hk hkj hy=>by rw[Dw hk]at hy;exact h.oth k y hk hkj hy }
  | some p =>
   obtain⟨H,z0⟩:=p
   obtain⟨I,e,_⟩:=hW
   cases e
theorem Alq{d:Deferred}{i c k:Nat}{Rs:List (Value→Ro→Prop)}{R:Value→Ro→Prop}{fr':Frame}(hst:∀W,stepG P true (G fr cs) W = .spawn (G fr' cs) (G (Gg P d) []) W #[])(hn:∀c vs,(c,Res.recv vs)∉σ)
  (hone:∀c' k' Rs',(c',Res.crowd k' Rs')∈σ→Rs'≠[]→c'=c) (hi:σ[i]?=some (c,Res.crowd (k+1) Rs)) (hM:MsgI P c R (Gg P d) [] ρ []) (hK:Fine P W0 Pst fr' cs ρ (σ.set i (c,.crowd k (Rs++[R])))):Fine P W0 Pst fr cs ρ σ:=by
 have hc:(c,Res.crowd (k+1) Rs)∈σ:=lZ3 hi
 have key:∀l B r a f gs w sl t q,(∀x∈l,Live P c x)→l.map (·.R)=Rs→PhN P W0 fr cs ρ σ c (k+1) l B r a f none gs w t q→Out P Pst gs t (runT P (crowd gs w sl) 0):=by
  intro l B r a f gs w sl t q p hR h
  subst hR
  obtain⟨g,hg,his⟩:=h.g0 rfl
  refine .inl ⟨_,_,runT_crowd_spawn hg (show stepG P (0==0) g w=_ from (his.step w).trans (hst w)),?_⟩
  have n:MemOp.ofEvents 0 g.frame.fn g.frame.place #[] = #[]:=rfl
  rw[n]
  have m:=h.fork (d:=d) (fr':=fr') (R:=R) (fn:=g.frame.fn) (fn':=(G (Gg P d) []).frame.fn) (pos:=g.frame.place) (pos':=g.frame.place) hi rfl
  rw[show (l++[(⟨gs.size,R,fun _=>False,fun b=>(ρ b).isSome=true,.run (Gg P d) [] ρ []⟩:WK)]).map (·.R)=l.map (·.R)++[R] by simp]at m
  exact hK.N _ _ _ _ _ _ _ _ _ _ _ _ (by simp) (fun x hx=>by
   rcases lZ9.1 hx with hx|hx
   ·exact p x hx
   ·rw[Jd.1 hx];exact Live.of_msg hM _ _ _) m
 refine Pv (fun gs w sl t q h=>?_) (fun c' j Am Aw Sh pc gs w sl t q h=>absurd h.hc (hn _ _)) (fun _ c' vs j Am Aw Sh fw cw ρw σw wp gs w sl t q hW h=>absurd h.hc (hn _ _)) (fun c' k' l B r a f gs w sl t q hne p h=>?_)
 ·have hR:=h.nr.crowd _ _ _ hc
  subst hR
  obtain⟨r,m⟩:=h.toN hc
  exact key [] [] r _ _ gs w sl t q (fun x hx=>by cases hx) rfl m
 ·have e:=hone _ _ _ h.hc (by simpa using hne)
  subst e
  have e:=h.sat.uniq h.hc hc
  injection e with n e2
  subst n
  exact key l B r a f gs w sl t q p e2 h
theorem Alt{i c k:Nat}{Rs:List (Value→Ro→Prop)}{z:Value}{f:Bool}(hst:Aeg P c z f fr cs)(hi:σ[i]?=some (c,Res.crowd k Rs))(hne:Rs≠[])
  (hK:∀(n:Nat) R v ρ1 ρ',Rs[n]?=some R→R v ρ1→Ro.le ρ ρ'→Ro.le ρ1 ρ'→Fine P W0 Pst (fr.finish (recvd f v true)) cs ρ' (σ.set i (c,.crowd k (Rs.eraseIdx n)))):Fine P W0 Pst fr cs ρ σ:=by
 have hc:(c,Res.crowd k Rs)∈σ:=lZ3 hi
 have next:∀(l:List WK) (m:Nat) x v ρw ρ' B r a b gs w sl t q,(∀y∈l,Live P c y)→l.map (·.R)=Rs→l[m]?=some x→x.R v ρw→Ro.le ρ ρ'→Ro.le ρw ρ' →
   PhN P W0 (fr.finish (recvd f v true)) cs ρ' (σ.set i (c,.crowd k ((l.eraseIdx m).map (·.R)))) c k (l.eraseIdx m) B r a b none gs w t q→My P Pst (crowd gs w sl) t:=by
  intro l m x v ρw ρ' B r a b gs w sl t q d hR hm hv X Y h
  have hF:=hK m x.R v ρw ρ' (by rw[←hR,Mg,hm];rfl) hv X Y
  rw[Mv,hR]at h
  by_cases hl:l.eraseIdx m=[]
  ·rw[hl]at h
   exact hF.A _ _ _ _ _ h.toA
  ·exact hF.N _ _ _ _ _ _ _ _ _ _ _ _ hl (fun y hy=>d y (List.mem_of_mem_eraseIdx hy)) h
 refine Pv (fun gs w sl t q h=>absurd (h.nr.crowd _ _ _ hc) hne) (fun c' j Am Aw Sh pc gs w sl t q h=>absurd (h.ncr _ _ _ hc) hne) (fun _ c' vs j Am Aw Sh fw cw ρw σw wp gs w sl t q hW h=>absurd (h.ncr _ _ _ hc) hne) (fun c' k' l B r a b gs w sl t q aa d h=>?_)
 have e:=h.one _ _ _ hc hne
 subst e
 have e:=h.sat.uniq h.hc hc
 injection e with e1 hR
 subst e1
 obtain⟨g,hg,his⟩:=h.g0 rfl
 obtain⟨cap,tm,hch,a8⟩:=h.ch
 have H:stepG P (0==0) g w = .comm (G fr cs) #[rcase c z] true (.recv f) w #[]:=(his.step w).trans (hst w)
 have hp:partners (gs.setIfInBounds 0 ph) c true=[]:=Io (h.offers (.inl rfl))
 have ee:MemOp.ofEvents 0 g.frame.fn g.frame.place #[] = #[]:=rfl
 cases hB:B with
 | nil =>
  subst hB
  refine .inl ⟨_,_,crowd_waits hg H fun cc hcc=>?_,?_⟩
  ·have:cc=rcase c z:=by simpa using hcc
   subst this
   refine⟨made_recv z hch,?_⟩
   simp[ways,rcase,hch,hp]
  ·rw[ee,Sn]
   refine Ahl (W0:=W0) (fr:=fr) (cs:=cs) (ρ:=ρ) (mp:=some (z,f)) hi (fun e=>by cases e) (fun z' f' e l' m x v ρw ρ' B r a b gs w sl t q K L M O T U V=>?_) l aa d [] r a b _ _ _ _ q ?_
   ·cases e
    exact next l' m x v ρw ρ' B r a b gs w sl t q K L M O T U V
   ·exact { h with
     g0:=fun e=>by cases e
     g0p:=fun z' f' e=>by cases e;exact⟨Fq hg,rfl⟩
     oth:=fun m y hm d hy=>by rw[Dw hm]at hy;exact h.oth m y hm d hy
     jl:=fun x hx=>by simpa using h.jl x hx
     run:=fun x hx fw cw ρw σw e=>{ h.run x hx fw cw ρw σw e with
      g:=by
       obtain⟨y,hy,hi⟩:=(h.run x hx fw cw ρw σw e).g
       exact⟨y,by rw[Dw (h.j0 x hx)];exact hy,hi⟩ } }
 | cons b0 B' =>
  obtain⟨j,v⟩:=b0
  subst hB
  obtain⟨x,hx,hxj,ρw,p,hsx⟩:=h.buf j v mC
  subst hxj
  obtain⟨m,hm⟩:=We hx
  have hS:=h.sent x hx v ρw p hsx
  obtain⟨mm,op,D,E,W⟩:=hS.at_
  have hmm:mm=0:=by
   cases mm with
   | zero=>rfl
   | succ mm =>
    rw[Ot]at D
    have:=h.bn
    rw[Ez,Lr]at this
    exact absurd (Im (f:=Prod.fst) (lZ3 D)) this.1
  subst hmm
  refine .inl ⟨_,_,crowd_recv_buf hg H hch (by simp) hp,?_⟩
  rw[ee,Rk]
  generalize hu:(#[{g:=0,fn:=(G fr cs).frame.fn,pos:=(G fr cs).frame.place,act:=.recv c r cap},{g:=0,fn:=(G fr cs).frame.fn,pos:=(G fr cs).frame.place,act:=.recvDone c r}]:Trace)=u
  have I:∀op∈u,op.act.touch?=none:=fun op hop=>by
   subst hu
   simp only[Abg,lZ5,Ow,or_false]at hop
   rcases hop with rfl|rfl<;>rfl
  have hwl:Wordless u:=fun op hop m hm=>by
   subst hu
   simp only[Abg,lZ5,Ow,or_false]at hop
   rcases hop with rfl|rfl<;>cases hm
  have J:=h.wl.append hwl
  have F:(t++u)[p]?=some op:=by rw[getElem?_append_old (lt_size_of_getElem? E)];exact E
  have C:(t++u)[t.size+1]?=some {g:=0,fn:=(G fr cs).frame.fn,pos:=(G fr cs).frame.place,act:=.recvDone c r}:=by rw[Zb (by omega)];subst hu;simp
  have hpq:HappensBefore (t++u) p (t.size+1):=.single (.inr ⟨.handOver (c:=c) (k:=r) (by rw[Trace.act?,F];simp[W]) (by simp[Trace.act?,C]),J.heard F,J.heard C⟩)
  obtain⟨ρ'',q1,q2,Z⟩:=h.take (i:=m) (i0:=i) (p:=p) (q0:=t.size+1) (rv:=recvd f v true) (ρw:=ρw) (B':=B') (cap:=cap) (tm:=tm) (u:=u) (q':=q)
   (gs':=gs.setIfInBounds 0 ((G fr cs).finishComm P #[rcase c z] (.recv f) 0 v true))
   hm (by rw[hR];exact hi) a8 hS.sat hS.rw_ (hS.kp.other (Dp _) (Ha I)) I hwl C rfl hpq (fun m' hm'=>by
    unfold AlOk at hm'
    rw[hsx]at hm'
    exact Before.app u hm') (.inr ⟨v,rfl⟩)
   ⟨_,Fq hg,by rw[finishComm_recv];exact(Is.of fr cs).served _⟩ (by simp) (fun m' a9 _=>by rw[Dw a9])
   (fun y hy=>by
    rw[Dw (h.j0 x hx)]at hy
    exact h.oth x.j y (h.j0 x hx) (fun x' hx' e=>by have:=Mk h.jn hx' hx e;subst this;exact⟨v,ρw,p,hsx⟩) hy) (fun m' _=>rfl)
  have a0:((((x.j,v)::B').map Prod.snd).toArray.extract 1 (((x.j,v)::B').map Prod.snd).toArray.size)=(B'.map Prod.snd).toArray:=by simp[Avk]
  rw[a0,show r+((x.j,v)::B').length=r+1+B'.length by simp only[lZ7];omega]
  have hgd:(((x.j,v)::B').map Prod.snd).toArray.getD 0 undef=v:=by simp
  rw[hgd]
  exact next l m x v ρw ρ'' B' (r+1) _ _ _ _ _ _ q d hR hm hS.val q1 q2 Z
theorem Aus{K:Cy}(h1:Ade P fr cs ρ σ K)(ih:∀fr' cs' ρ' σ',K fr' cs' ρ' σ'→Fine P W0 Pst fr' cs' ρ' σ'):Fine P W0 Pst fr cs ρ σ:=by
 rcases h1 with⟨d,i,c,vs,fr',h1,a,b,e,g⟩|⟨i,c,v,vs,z,h1,a,b⟩|⟨i,c,z,h1,a,b⟩|⟨d,i,c,k,Rs,R,fr',h1,a,b,e,g,q⟩|⟨i,c,k,Rs,z,f,h1,a,b,e⟩
 ·exact Aeu h1 a b e (ih _ _ _ _ g)
 ·exact Aev h1 a (ih _ _ _ _ b)
 ·exact Aet h1 a (ih _ _ _ _ b)
 ·exact Alq h1 a b e g (ih _ _ _ _ q)
 ·exact Alt h1 a b fun n R v t ρ' h j m p=>ih _ _ _ _ (e n R v t ρ' h j m p)
end
end
section
open Go
section
variable{C:Ctx}{e:Env}{ds:List Deferred}{ρ:Ro}{σ:Own}{K:Value→List Deferred→Ro→Own→Prop}{rd:Option Nat}{dd:Option Tmp}
variable{ty:TypeId}{pos:String}{af:Array Edge}{g:Option (Nat×Bool)}{x y:Operand}{v p:Value}{t t':TypeId}{P:Program}
theorem Qm{v:Value}(h:single v=true):v.cells = #[v]:=by
 cases v<;>first|rfl|(simp[single]at h)
/-- One cell of an owned block is stored. -/
theorem Cz{c:List Value}{r off j:Nat}(hz:∃i,C.P.info? t=some i∧i.size=1)(hx:Af e x = .pointer (some ⟨r,off,none⟩))(hy:Af e y=v)(hs:single v=true)
  (hj:σ[j]?=some (r,.obj (.cells c.toArray t' (0,0)))) (hl:off<c.length) (h:K undef ds ρ (σ.set j (r,.obj (.cells (c.set off v).toArray t' (0,0))))) :
  wpS C.P ρ (execOp (Af e) ⟨dd,.store t x y,ty,pos,af,g⟩) σ (NextH C K rd ds ρ):=by
 refine Li (vs:=[v]) (c:=c) (c':=c.set off v) hz hx hy (Qm hs) rfl (by simpa using hs) hj (by simpa using Nat.succ_le_of_lt hl) ?_ h
 simp only[over]
theorem Ajx{k:IntKind}{p q:Int}{tys:Array TypeId}(hx:Af e x = .int k p)(hy:Af e y = .int k q):Yld P ρ e (.call ⟨.builtin .min,#[x,y],tys⟩) ty (.int k (min p q)):=by
 refine Mc (args:=[x,y]) (vs:=[.int k p,.int k q]) (s:=fun _=>pure (.int k (min p q))) (by simp[hx,hy]) (fun cs=>?_) ?_
 ·have a:builtin .min tys ty cs [.int k p,.int k q].toArray=(Builtin.min_ tys ty #[.int k p,.int k q]).bind fun v=>Sem.pure (Next.value v):=rfl
  rw[a]
  have b:Builtin.min_ tys ty #[.int k p,.int k q]=pure (.int k (min p q)):=by
   simp only[Builtin.min_,Ark,List.foldlM_nil,Builtin.min2]
   have:(if q<p then q else p)=min p q:=by split<;>omega
   rw[this];rfl
  rw[b]
 ·exact fun cs ρ' σ' _=>⟨rfl,rfl⟩
def Wu(P:Program):List Field→List Nat→Prop
 | [],[]=>True
 | f::fs,n::ns=>(∃i,P.info? f.type=some i∧i.size=n)∧Wu P fs ns
 | _,_=>False
def Gs:List Field→List Nat→List (Nat×Nat)
 | f::fs,n::ns=>(f.offset,n)::Gs fs ns
 | _,_=>[]
theorem Ux{P:Program}{Q:Array (Nat×Nat)→Own→Prop}:∀(fs:List Field) (ns:List Nat) (acc:Array (Nat×Nat)),Wu P fs ns→Q (acc++(Gs fs ns).toArray) σ →
  wpS P ρ (List.foldlM (m:=Sem) (fun (bs:Array (Nat×Nat)) (f:Field)=>Functor.map bs.push (do pure (f.offset,←sizeOf f.type))) acc fs) σ Q
 | [],[],acc,_,h=>by
  have e1:acc++(Gs [] []).toArray=acc:=by simp[Gs]
  rw[e1]at h
  exact h
 | f::fs,n::ns,acc,hs,h=>by
  rw[Ark]
  show wpS P ρ (Sem.bind _ _) σ Q
  rw[Ad]
  show wpS P ρ (Sem.bind (Sem.bind (sizeOf f.type) _) _) σ _
  rw[Ad,Ad]
  refine Dx hs.1 ?_
  show wpS P ρ (List.foldlM _ (acc.push (f.offset,n)) fs) σ Q
  refine Ux fs ns _ hs.2 ?_
  have e1:acc.push (f.offset,n)++(Gs fs ns).toArray=acc++(Gs (f::fs) (n::ns)).toArray:=by
   apply Array.ext';simp[Gs]
  rw[e1];exact h
theorem Be{place:Nat→Option (Nat×Nat)}{c cs:List Value}{i off:Nat}{v:Value}{rest:List (Nat×Value)}(hv:v.cells=cs.toArray)(hp:place i=some (off,cs.length))(hl:off+cs.length≤c.length) :
  Instr.fill place c.toArray ((i,v)::rest)=Instr.fill place (over c off cs).toArray rest:=by
 simp only[Instr.fill,hp,hv]
 have a:(decide (cs.toArray.size≠cs.length)||decide (off+cs.toArray.size>c.toArray.size))=false:=by
  simp only[Wh,Awa,decide_eq_false_iff_not]
  exact⟨by simp,by omega⟩
 rw[if_neg (by simpa using a)]
 congr 1
 have:=Pd cs c off 0
 rw[←Array.foldl_toList]
 simp only[Array.toList_zipIdx,Awd]
 rw[this,Rl]
theorem Dn{fs:List Field}{ns:List Nat}{z:Value}{zc cs:List Value}{ps:List (Nat×Operand)}{vs:List (Nat×Value)}(hT:P.underlying t=some (.struct fs.toArray))(hz:Fw P t z)(hzc:z.cells=zc.toArray)(hn:Wu P fs ns)
  (hp:ps.map (fun p=>(p.1,Af e p.2))=vs) (hf:Instr.fill ((Gs fs ns)[·]?) zc.toArray vs=some cs.toArray):Yld P ρ e (.build t ps.toArray) ty (.agg cs.toArray) :=
 Mt (s:=Instr.build t (ps.toArray.map fun (p:Nat×Operand)=>(p.1,Af e p.2))) (fun _ _ _ _=>rfl) fun ρ' σ _=>by
  have hps:(ps.toArray.map fun (p:Nat×Operand)=>(p.1,Af e p.2))=vs.toArray:=by rw[←hp];simp
  rw[hps]
  unfold Instr.build
  show wpS P ρ' ((zeroValue t).bind _) σ _
  rw[Ad]
  refine Jz hz ?_
  show wpS P ρ' ((underlying t).bind _) σ _
  rw[Ad]
  refine Az hT ?_
  dsimp only
  show wpS P ρ' (Sem.bind _ _) σ _
  rw[Ad,Amk,Avo]
  refine Ux fs ns #[] hn ?_
  have a:(fun (x:Nat)=>(#[]++(Gs fs ns).toArray)[x]?)=fun (x:Nat)=>(Gs fs ns)[x]?:=by funext x;simp
  simp only[a,hzc,hf]
  exact⟨rfl,rfl⟩
def EvB(e:Env):List (Nat×Operand)→List (Nat×Value)→Prop
 | [],[]=>True
 | p::ps,q::qs=>(p.1=q.1∧Af e p.2=q.2)∧EvB e ps qs
 | _,_=>False
theorem EvB.map{e:Env}:∀{ps:List (Nat×Operand)} {qs:List (Nat×Value)},EvB e ps qs→ps.map (fun p=>(p.1,Af e p.2))=qs
 | [],[],_=>rfl
 | p::ps,q::qs,h=>by
  rw[Ez,EvB.map h.2,h.1.1,h.1.2]
 | [],_::_,h=>h.elim
 | _::_,[],h=>h.elim
theorem Grow.single{α:Type}[Dat α]{ρ:Ro}{el:TypeId}{v:Value}{xs:List α}{gr:Own}(h:Grow ρ el v xs gr):single v=true:=by
 rcases h.2.2 with⟨a,_⟩|⟨r,cap,cs,rs,gb,a,_⟩<;>rw[a]<;>rfl
theorem Cb{r off off0 off' i:Nat}{fs:Array Field}{f:Field}{n':Nat}(hT:P.underlying t=some (.struct fs))(hi:fs[i]?=some f)(ho:f.offset=off0)(hF:∃i,P.info? f.type=some i∧i.size=n')(hk:n'≠0)(hx:Af e x = .pointer (some ⟨r,off,none⟩))(ho':off+off0=off') :
  Yld P ρ e (.fieldAddr t x i) ty (.pointer (some ⟨r,off',none⟩)):=Ajt hT hi ho hF hk hx ho'
theorem Fx{r off off0 off' i:Nat}{fs:Array Field}{f:Field}{n':Nat}{j:TypeInfo}(hT:P.underlying t=some (.struct fs))(hi:fs[i]?=some f)(hF:P.info? f.type=some j)(hs:j.size=n':=by exact rfl)(ho:f.offset=off0:=by exact rfl)(hk:n'≠0:=by decide)(hx:Af e x = .pointer (some ⟨r,off,none⟩):=by exact rfl)(ho':off+off0=off':=by exact rfl):Yld P ρ e (.fieldAddr t x i) ty (.pointer (some ⟨r,off',none⟩)):=Cb hT hi ho ⟨_,hF,hs⟩ hk hx ho'
theorem Cq{r off off' len k':Nat}{el:TypeId}{k:IntKind}{q:Int}(i:Nat)(hT:P.underlying t=some (.array len el))(hE:∃i,P.info? el=some i∧i.size=k')(hx:Af e x = .pointer (some ⟨r,off,none⟩))(hy:Af e y = .int k q)(hq:q=(i:Int))(hi:i<len)(ho:off+i*k'=off') :
  Yld P ρ e (.indexAddr t x y) ty (.pointer (some ⟨r,off',none⟩)):=Aju i hT hE hx hy hq hi ho
theorem Afy{r off off' len cap k':Nat}{el:TypeId}{k:IntKind}{q:Int}(i:Nat)(hT:P.underlying t=some (.slice el))(hE:∃i,P.info? el=some i∧i.size=k')(hx:Af e x = .slice (some ⟨r,off,none⟩) len cap)(hy:Af e y = .int k q)(hq:q=(i:Int))(hi:i<len)(ho:off+i*k'=off') :
  Yld P ρ e (.indexAddr t x y) ty (.pointer (some ⟨r,off',none⟩)):=Ajv i hT hE hx hy hq hi ho
def Apk:List Value→Prop
 | []=>True
 | v::vs=>single v=true∧Apk vs
theorem Zh:∀{vs:List Value},Apk vs→∀w∈vs,single w=true
 | [],_,w,h=>by cases h
 | v::vs,hs,w,h=>by
  rcases lZ5.1 h with rfl|h
  ·exact hs.1
  ·exact Zh hs.2 w h
end
section
variable{P:Program}{b:FB}{n:Nat}{l₀ rest:List Oper}{Q:Env→List Deferred→Ro→Own→Prop}{e:Env}{ds:List Deferred}{ρ:Ro}{σ:Own}
variable{d:Nat}{ty t:TypeId}{pos:String}{af:Array Edge}{g:Option (Nat×Bool)}{x:Operand}{v z:Value}
end
end
section
open Go
section
variable{C:Ctx}{e:Env}{ds:List Deferred}{ρ:Ro}{σ:Own}{K:Value→List Deferred→Ro→Own→Prop}{rd:Option Nat}{dd:Option Tmp}
variable{ty:TypeId}{pos:String}{af:Array Edge}{g:Option (Nat×Bool)}{x y u:Operand}{v p:Value}{t t':TypeId}{P:Program}
/-- The fields are numbers,one cell each: these here,and those there. -/
def EqF(P:Program)(xs ys:Array Value):List Field→List Int→List Int→Prop
 | [],[],[]=>True
 | f::fs,p::ps,q::qs=>((f.name ≠ "_")∧∃k,P.underlying f.type=some (.int k)∧xs[f.offset]?=some (.int k p)∧ys[f.offset]?=some (.int k q))∧EqF P xs ys fs ps qs
 | _,_,_=>False
theorem Qr{cs:Array Value}{off:Nat}{Q:Value→Own→Prop}(hT:∃d,P.underlying t=some d∧Qv d=false)(hc:cs[off]?=some v)(h:Q v σ):wpS P ρ (part t cs off) σ Q:=by
 show wpS P ρ ((isAgg t).bind _) σ Q
 rw[Ad]
 refine Hi hT ?_
 simp only[hc]
 exact h
theorem Afv{k:IntKind}{a b:Int}{d:Nat}{Q:Bool→Own→Prop}(hT:P.underlying t=some (.int k))(h:Q (a==b) σ):wpS P ρ (Op.equalIn (d+1) t (.int k a) (.int k b)) σ Q:=by
 show wpS P ρ ((underlying t).bind _) σ Q
 rw[Ad]
 refine Az hT ?_
 simp only[if_true]
 exact h
theorem Uv{xs ys:Array Value}{d:Nat}{K:(Option Bool×Unit)→Own→Prop}:∀(fs:List Field) (ps qs:List Int),EqF P xs ys fs ps qs→K (if ps=qs then none else some false,()) σ →
    wpS P ρ (forIn fs ((none, ()) : Option Bool×Unit) fun (f : Field) (__s : Option Bool×Unit) =>
            if f.name ≠ "_" then do
              let __do_lift ←part f.type xs f.offset
              let __do_lift_1 ←part f.type ys f.offset
              let __do_lift ←Op.equalIn (d+1) f.type __do_lift __do_lift_1
              if (!__do_lift)=true then pure (ForInStep.done (some false,())) else pure (ForInStep.yield (none,()))
            else pure (ForInStep.yield (none,()))) σ K
  | [],[],[],_,h=>h
  | f::fs,p::ps,q::qs,⟨⟨hn,k,hT,hx,hy⟩,hr⟩,h=>by
    rw[Aov]
    show wpS P ρ (Sem.bind _ _) σ K
    rw[Ad,if_pos hn]
    show wpS P ρ ((part f.type xs f.offset).bind _) σ _
    rw[Ad]
    refine Qr ⟨_,hT,rfl⟩ hx ?_
    show wpS P ρ ((part f.type ys f.offset).bind _) σ _
    rw[Ad]
    refine Qr ⟨_,hT,rfl⟩ hy ?_
    show wpS P ρ ((Op.equalIn (d+1) f.type (.int k p) (.int k q)).bind _) σ _
    rw[Ad]
    refine Afv hT ?_
    cases hpq:(p==q) with
    | false =>
      have hne:¬(p::ps=q::qs):=fun h=>by injection h with h1;subst h1;simp at hpq
      rw[if_neg hne]at h
      exact h
    | true =>
      have he:p=q:=eq_of_beq hpq
      refine Uv fs ps qs hr ?_
      have:(p::ps=q::qs)↔ps=qs:=by subst he;simp
      simp only[this]at h
      exact h
  | [],[],_::_,h,_=>h.elim
  | [],_::_,_,h,_=>h.elim
  | _::_,[],_,h,_=>h.elim
  | _::_,_::_,[],h,_=>h.elim
theorem Ms{fs:List Field}{xs ys:Array Value}{ps qs:List Int}{d:Nat}{Q:Bool→Own→Prop}(hT:P.underlying t=some (.struct fs.toArray))(hs:P.stoodInHeld t=false)(hf:EqF P xs ys fs ps qs)(h:Q (decide (ps=qs)) σ) :
  wpS P ρ (Op.equalIn (d+2) t (.agg xs) (.agg ys)) σ Q:=by
 show wpS P ρ ((underlying t).bind _) σ Q
 rw[Ad]
 refine Az hT ?_
 show wpS P ρ (Sem.bind program _) σ Q
 rw[Ad]
 show wpS P ρ (if P.stoodInHeld t then _ else _) σ Q
 rw[if_neg (by simp[hs])]
 simp only[Aor]
 show wpS P ρ (Sem.bind _ _) σ Q
 rw[Ad]
 refine Uv fs ps qs hf ?_
 by_cases he:ps=qs
 ·rw[if_pos he];rw[Nl he]at h;exact h
 ·rw[if_neg he];rw[Sq he]at h;exact h
/-- Structs of numbers are compared. -/
theorem Aci{fs:List Field}{xs ys:Array Value}{ps qs:List Int}(hT:P.underlying t=some (.struct fs.toArray))(hs:P.stoodInHeld t=false)(hg:P.eqGuardType P.depth t=false)(hx:Af e x = .agg xs)(hy:Af e y = .agg ys)(hf:EqF P xs ys fs ps qs) :
  Yld P ρ e (.binOp .neq t x y t') ty (.bool (!decide (ps=qs))) :=
 Mt (s:=(do eqGuard .neq t x y (Af e x) (Af e y);binOp .neq t (Af e x) (Af e y))) (fun _ _ _ _=>rfl) fun ρ' σ _=>by
  rw[hx,hy]
  show wpS P ρ' (Sem.bind (eqGuard .neq t x y (.agg xs) (.agg ys)) _) σ _
  rw[Ad]
  show wpS P ρ' (if (!P.eqGuardType P.depth t)=true then _ else _) σ _
  rw[if_pos (by simp[hg])]
  show wpS P ρ' ((Op.equal t (.agg xs) (.agg ys)).bind _) σ _
  rw[Ad]
  exact Ms (d:=9998) hT hs hf ⟨rfl,rfl⟩
theorem Acg{fs:List Field}{xs ys:Array Value}{ps qs:List Int}(hT:P.underlying t=some (.struct fs.toArray))(hs:P.stoodInHeld t=false)(hg:P.eqGuardType P.depth t=false)(hx:Af e x = .agg xs)(hy:Af e y = .agg ys)(hf:EqF P xs ys fs ps qs) :
  Yld P ρ e (.binOp .eql t x y t') ty (.bool (decide (ps=qs))) :=
 Mt (s:=(do eqGuard .eql t x y (Af e x) (Af e y);binOp .eql t (Af e x) (Af e y))) (fun _ _ _ _=>rfl) fun ρ' σ _=>by
  rw[hx,hy]
  show wpS P ρ' (Sem.bind (eqGuard .eql t x y (.agg xs) (.agg ys)) _) σ _
  rw[Ad]
  show wpS P ρ' (if (!P.eqGuardType P.depth t)=true then _ else _) σ _
  rw[if_pos (by simp[hg])]
  show wpS P ρ' ((Op.equal t (.agg xs) (.agg ys)).bind _) σ _
  rw[Ad]
  exact Ms (d:=9998) hT hs hf ⟨rfl,rfl⟩
def Ahx:Value→Nat
 | .slice (some a) _ _=>a.block
 | _=>0
theorem Nw{α:Type}[Dat α]{xs:List α}{gr:Own}{el el' off':Nat}{k:IntKind}{q:Int}(i:Nat)(hT:P.underlying t=some (.slice el'))(hE:∃i,P.info? el'=some i∧i.size=Dat.k α)(hx:Af e x=v)(hv:Grow ρ el v xs gr)(hy:Af e y = .int k q)(hq:q=(i:Int))(hi:i<xs.length)(ho:i*Dat.k α=off') :
  Yld P ρ e (.indexAddr t x y) ty (.pointer (some ⟨Ahx v,off',none⟩)):=by
 rcases hv.2.2 with⟨_,b⟩|⟨r,cap,cs,rs,gb,a,_⟩
 ·rw[b]at hi;simp at hi
 ·subst a
  exact Afy i hT hE hx hy hq hi (by omega)
theorem Aku{α:Type}[Dat α]{xs:List α}{a:α}{gr:Own}{el:TypeId}{w:Value}{off i:Nat}(hE:∃i,C.P.info? t=some i∧i.size=Dat.k α)(hx:Af e x = .pointer (some ⟨Ahx v,off,none⟩))(ho:off=i*Dat.k α)(hy:Af e y=w)(hw:Val ρ w a)(hv:Grow ρ el v xs gr)(hi:i<xs.length)
  (h:∀gr',Grow ρ el v (xs.set i a) gr'→K undef ds ρ (gr'++σ)):wpS C.P ρ (execOp (Af e) ⟨dd,.store t x y,ty,pos,af,g⟩) (gr++σ) (NextH C K rd ds ρ):=by
 obtain⟨wc,n,E,H⟩:=hw.cells
 rcases hv.2.2 with⟨_,E⟩|⟨r,cap,cs,rs,gb,F,G,hr,hl,hc⟩
 ·rw[E]at hi;simp at hi
 ·subst F G
  have hwl:=Dat.len n
  have hcl:=hr.len
  have hb:i*Dat.k α+Dat.k α≤xs.length*Dat.k α:=by rw[←Nat.succ_mul];exact Awc _ hi
  obtain⟨ca,cb,cc,b,j,d,m⟩:∃ca cb cc,cs=ca++(cb++cc)∧ca.length=i*Dat.k α∧cb.length=Dat.k α∧Rows ρ (ca++(wc++cc)) (xs.set i a):=by
   clear hv h hx hl hc hb hcl ho
   induction xs generalizing cs i with
   | nil=>simp at hi
   | cons z zs ih =>
    obtain⟨f,q,u,B,D⟩:=hr
    have hz:=Dat.len B
    cases i with
    | zero=>exact⟨[],f,q,by simp[u],by simp,hz,wc,q,rfl,n,D⟩
    | succ i =>
     obtain⟨ca,cb,cc,b,j,d,m⟩:=ih (i:=i) (by simpa using hi) _ D
     refine⟨f++ca,cb,cc,by rw[u,b];simp,by rw[lZ1,hz,j,Ob,Yz,Yx],d,f,ca++(wc++cc),by simp,B,m⟩
  refine Li (i:=0) (off:=off) (vs:=wc) (c:=cs++rs) (c':=(ca++(wc++cc))++rs) hE hx hy H hwl (Dat.sgl n) rfl (by rw[lZ1,hcl,hwl,ho];omega) ?_ ?_
  ·rw[Qe _ _ _ (by rw[lZ1,hcl,hwl,ho];omega),b,ho,←j,hwl,←d]
   rw[lZ6,Act,←lZ6 ca,←Amr]
   simp[lZ6]
  ·refine h ((r,.obj (.cells ((ca++(wc++cc))++rs).toArray el (0,0)))::gb) ⟨fun p hp=>?_,by rw[Ox];exact hv.2.1,.inr ⟨r,cap,ca++(wc++cc),rs,gb,by rw[Ox],rfl,m,?_,by rw[Ox];exact hc⟩⟩
   ·rcases lZ5.1 hp with rfl|hp
    ·exact⟨_,rfl⟩
    ·exact hv.1 p (lZ0 _ hp)
   ·rw[←hl,b];simp[hwl,d]
end
section
variable{C:Ctx}{b:FB}{l₀:List Oper}{Q:Env→List Deferred→Ro→Own→Prop}{ds:List Deferred}{ρ₀ ρ₁:Ro}{pz:List Nat}
end
end
section
open Go
section
variable{C:Ctx}{e:Env}{ds:List Deferred}{ρ:Ro}{σ:Own}{K:Value→List Deferred→Ro→Own→Prop}{rd:Option Nat}{dd:Option Tmp}
variable{ty:TypeId}{pos:String}{af:Array Edge}{g:Option (Nat×Bool)}{x y u:Operand}{v p:Value}{t t':TypeId}{P:Program}
theorem Ck{a:Addr}(hx:Af e x = .pointer (some a)):Yld P ρ e (.nilCheck x) ty (.pointer (some a)):=fun ρ' σ d pos af g _=>by
 unfold execOp
 simp only[hx]
 exact⟨rfl,rfl⟩
theorem Il{fn:Fn}{caps:List Operand}{vs:List Value}(hv:EvL e caps vs):Yld P ρ e (.makeFunc fn #[] caps.toArray) ty (.func fn #[] vs.toArray):=fun ρ' σ d pos af g _=>by
 show wpS P ρ' ((Instr.makeFunc fn ((#[]:Array Operand).map (Af e)) (caps.toArray.map (Af e))).bind fun v=>Sem.pure (Next.value v)) σ _
 have a:(#[]:Array Operand).map (Af e) = #[]:=by simp
 rw[hv.map,a]
 exact⟨rfl,rfl⟩
end
/-- What is held may be told otherwise behind a piece of code. -/
def Vl(Q:Hu):Hu:=fun ex e ds ρ σ=>∃ρ' σ',Ghost ρ σ ρ' σ'∧Q ex e ds ρ' σ'
theorem Aab{C:Ctx}{b:FB}{n:Nat}{c:Code}{Q:Hu}{e:Env}{ds:List Deferred}{ρ:Ro}{σ:Own}{V:Es}(h:WpP C V b n c (Vl Q) e ds ρ σ):WpP C V b n c Q e ds ρ σ:=fun tm k cs ht=>by
 refine(h tm k cs ht).bind ?_
 rintro _ _ ρ' σ' (⟨a,ex,tm',e',ds',i,d,⟨j,m,hg,hq⟩,f,g⟩|hp)
 ·exact .ghost hg (.stop (.inl ⟨a,ex,tm',e',ds',i,d,hq,f,g⟩))
 ·exact .stop (.inr hp)
theorem Yn{Q:Hu}{ex:Ex}{e:Env}{ds:List Deferred}{ρ ρ':Ro}{σ σ':Own}(hg:Ghost ρ σ ρ' σ')(h:Vl Q ex e ds ρ' σ'):Vl Q ex e ds ρ σ :=
 let ⟨ρ1,σ1,h1,h2⟩:=h;⟨ρ1,σ1,hg.trans h1,h2⟩
theorem Adc{Q:Hu}{ex:Ex}{e:Env}{ds:List Deferred}{ρ:Ro}{σ:Own}(h:Q ex e ds ρ σ):Vl Q ex e ds ρ σ:=⟨ρ,σ,.refl,h⟩
theorem Yp{I:List Value→Ro→Own→Prop}{pre pre':List Value}{ρ:Ro}{σ:Own}(h:pre'=pre)(hi:I pre ρ σ):I pre' ρ σ:=by rw[h];exact hi
theorem Fe(A B C:Own):(A++(B++C)).Perm (B++(A++C)):=Bar A B C
theorem Xg{α:Type}{f:α→Value}(hf:∀a b,f a=f b→a=b):∀{l m:List α},l.map f=m.map f→l=m
 | [],[],_=>rfl
 | [],_::_,h=>by cases h
 | _::_,[],h=>by cases h
 | a::l,b::m,h=>by
  simp only[Ez,List.cons.injEq]at h
  rw[hf a b h.1,Xg hf h.2]
theorem Nf{α:Type}{f:α→Value}(hf:∀a b,f a=f b→a=b){l m:List α}(h:l.map f=m.map f):m=l:=(Xg hf h).symm
theorem Ly{α:Type}{f:α→Value}(hf:∀a b,f a=f b→a=b){l l1:List α}{x:Value}{post:List Value}(h:l.map f=l1.map f++x::post):∃a l2,l=l1++a::l2∧x=f a:=by
 obtain⟨k,m,c,d,e⟩:=List.map_eq_append_iff.1 h
 obtain⟨a,l2,g,i,j⟩:=List.map_eq_cons_iff.1 e
 have:=Xg hf d
 subst this
 exact⟨a,l2,by rw[c,g],i.symm⟩
section
variable{C:Ctx}{e:Env}{ds:List Deferred}{ρ:Ro}{σ:Own}{K:Value→List Deferred→Ro→Own→Prop}{rd:Option Nat}{dd:Option Tmp}
variable{ty:TypeId}{pos:String}{af:Array Edge}{g:Option (Nat×Bool)}{x y u:Operand}{v p:Value}{t t':TypeId}{P:Program}
theorem Xt{old new:Value}{Q:Value→Own→Prop}(hw:old=new)(h:Q new σ):wpS P ρ (Instr.keyThatStays old new) σ Q:=by
 subst hw
 unfold Instr.keyThatStays
 split
 ·exact h
 ·show wpS P ρ (Sem.bind (choose _) _) σ Q
  rw[Ad]
  show (if _ then _ else _)
  have key:∀n:Nat,(if n=0 then old else old)=old:=fun n=>by split<;>rfl
  split
  ·simp only[key];exact h
  ·intro t;simp only[key];exact h
end
end
section
open Go Go.WideShapes
/-- What may be read of a world: all its blocks but channels. -/
def roW(W:World):Ro:=fun b=>match W.heap[b]? with
 | some o=>if o.isChan then none else some o
 | none=>none
theorem Anl{W:World}(b:Nat)(o:Obj)(h:roW W b=some o):W.heap[b]?=some o∧o.isChan=false:=by
 unfold roW at h
 cases hb:W.heap[b]? with
 | none=>rw[hb]at h;cases h
 | some o' =>
  rw[hb]at h
  simp only at h
  cases hc:o'.isChan with
  | true=>rw[hc]at h;cases h
  | false=>rw[hc]at h;simp at h;subst h;exact⟨rfl,hc⟩
theorem Vz{W:World}{b t:Nat}{c:Array Value}{fz:Nat×Nat}(h:W.heap[b]?=some (.cells c t fz)):roW W b=some (.cells c t fz):=by
 unfold roW;rw[h];rfl
/-- A type whose readings are data of this kind. -/
def Api(α:Type)[Dat α](t:TypeId):Prop :=
 Tryz.prog.cellsOf t=Dat.k α∧∀(H:Type) (enc:TypeId×Value→H) (W:World) (fuel:Nat) (cs:List Value) (x:DataW H×List MemPlace),
  DataW.trod enc Tryz.prog W 0 (fun _=>true) true fuel t cs=some x→(∀n∈x.1.weights Tryz.prog t,n≤reachBytes)→∃a:α,Dat.rep (roW W) cs a
theorem Ajz{n:Nat}(h:n≤reachBytes):n<2^60:=by unfold reachBytes at h;omega
theorem Azn{t:TypeId}(ht:Tryz.prog.underlying t=some .string)(hc:Tryz.prog.cellsOf t=1):Api ByteArray t :=
 ⟨hc,fun H enc W c cs x h hw=>by
  obtain⟨s,a,b,_⟩:=DataW.trod_string ht h
  refine⟨s,a,Ajz ?_⟩
  have:=hw s.data.toList.length (by rw[b];simp[DataW.weights])
  simpa using this⟩
theorem Apb{α:Type}{P:Nat→α→Prop}:∀n,(∀i,i<n→∃a,P i a)→∃xs:List α,xs.length=n∧∀i x,xs[i]?=some x→P i x
 | 0,_=>⟨[],rfl,fun i x h=>by cases h⟩
 | n+1,h=>by
  obtain⟨xs,h1,h2⟩:=Apb n fun i hi=>h i (by omega)
  obtain⟨a,ha⟩:=h n (by omega)
  refine⟨xs++[a],by simp[h1],fun i x hx=>?_⟩
  rcases Mi i n with hlt|hge
  ·rw[Abd (by omega)]at hx;exact h2 i x hx
  ·have hi:i=n:=by
    have:=(lZ8.1 hx).1
    simp only[lZ1,Nk]at this;omega
   subst hi
   rw[List.getElem?_append_right (by omega),h1,Acu]at hx
   cases hx;exact ha
theorem Bcf{a:Addr}:a.add 0=a:=by simp[Addr.add]
theorem Ahb{b off i:Nat}:(⟨b,off,none⟩:Addr).add i=⟨b,off+i,none⟩:=by
 unfold Addr.add;split
 ·rename_i h;subst h;rfl
 ·rfl
theorem Adq{W:World}{a:Addr}{k:Nat}{cs:List Value}(hk:1≤k)(h:W.cells? 0 a k=some cs):∃b off c t fz rest,a=⟨b,off,none⟩∧W.heap[b]?=some (.cells c t fz)∧c.toList.drop off=cs++rest∧cs.length=k:=by
 unfold World.cells? at h
 rw[if_pos (Oc _)]at h
 have hl:=mapM_some_length h
 rw[List.length_range]at hl
 have hg:∀j,j<k→W.cell? (a.add j)=cs[j]?:=fun j hj=>mapM_some_get h j j (by rw[Aoo hj])
 obtain⟨b,off,f⟩:=a
 have d:=hg 0 hk
 rw[Bcf]at d
 obtain⟨v,hv⟩:∃v,cs[0]?=some v:=⟨_,Qq (by omega)⟩
 rw[hv]at d
 unfold World.cell? at d
 simp only at d
 cases hb:W.heap[b]? with
 | none=>rw[hb]at d;cases d
 | some o =>
  cases o with
  | cells c t fz =>
   rw[hb]at d
   simp only at d
   cases f with
   | some s=>simp at d
   | none =>
    refine⟨b,off,c,t,fz,(c.toList.drop off).drop k,rfl,hb,?_,hl⟩
    have e:(c.toList.drop off).take k=cs:=by
     apply Amm
     intro j
     rw[Avr]
     by_cases hj:j<k
     ·rw[if_pos hj,←hg j hj,Zd,Ahb]
      unfold World.cell?
      simp only[hb]
      simp
     ·rw[if_neg hj,Lo (by omega)]
    rw[←e,Aix]
  | _=>rw[hb]at d;cases d
theorem Pm{H:Type}{P:Program}{e:TypeId}:∀{ds:List (DataW H)} {d:DataW H} {n:Nat},d∈ds→n∈d.weights P e→n∈DataW.weightsAll P e ds
 | [],_,_,h,_=>by cases h
 | d'::ds,d,n,h,hn=>by
  rw[DataW.weightsAll,lZ9]
  rcases lZ5.1 h with rfl|h
  ·exact .inl hn
  ·exact .inr (Pm h hn)
theorem Auj{α:Type}[Dat α]{t e:TypeId}(ht:Tryz.prog.underlying t=some (.slice e))(hc:Tryz.prog.cellsOf t=1)(hb:1≤Tryz.prog.bytesOf e)(hk:1≤Dat.k α)(he:Api α e):Api (List α) t :=
 ⟨hc,fun H enc W L cs x h hw=>by
  rcases DataW.trod_slice ht h with⟨v,_⟩|⟨a,len,cap,u,rest,n,_,B,C,_,D,_,E,F,_,_⟩
  ·exact⟨[],_,v,none,0,0,rfl,rfl,by omega,Dp _,fun i x hx=>by cases hx⟩
  ·rw[C]at hw
   simp only[DataW.weights,ht]at hw
   have I:len<2^60:=by
    have:=hw _ mC
    simp only[Abh]at this
    refine Ajz (Jm ?_ this)
    rw[E]
    exact Jm (Jm (Avx _ _) (Yy (Acv _).symm)) (Nat.mul_le_mul_left _ hb)
   obtain⟨xs,J,q⟩:=Apb (P:=fun i (y:α)=>∃cs,W.cells? 0 (a.add (i*Tryz.prog.cellsOf e)) (Tryz.prog.cellsOf e)=some cs∧Dat.rep (roW W) cs y) len fun i hi=>by
    have d:=F i hi
    obtain⟨y,hy⟩:∃y,u[i]?=some y:=⟨_,Qq (by omega)⟩
    rw[hy,Option.bind_eq_some_iff]at d
    obtain⟨ci,f,g⟩:=d
    obtain⟨z,hz⟩:=he.2 H enc W n ci y g fun m hm=>hw m (lZ0 _ (Ia _ (Pm (Im (lZ3 hy)) hm)))
    exact⟨z,ci,f,hz⟩
   refine⟨xs,_,B,some a,len,cap,rfl,J,I,D,fun i y hy=>?_⟩
   obtain⟨b',j,rfl⟩:∃b' j,a=⟨b',j,none⟩:=by
    have hi:=(lZ8.1 hy).1
    obtain⟨p,K⟩:∃p,xs[0]?=some p:=⟨_,Qq (by omega)⟩
    obtain⟨ci,f,_⟩:=q 0 p K
    rw[he.1,Aiu,Bcf]at f
    obtain⟨b,off,_,_,_,_,d,_⟩:=Adq hk f
    exact⟨b,off,d⟩
   obtain⟨ci,f,g⟩:=q i y hy
   rw[he.1,Ahb]at f
   obtain⟨b,off,c,t',fz,rs,d,G,w,_⟩:=Adq hk f
   simp only[Addr.mk.injEq,and_true]at d
   obtain⟨rfl,rfl⟩:=d
   exact⟨b',j,rfl,b',_,c,t',fz,ci,rs,rfl,Vz G,g,w⟩⟩
end
section
open Go Go.RowKit Go.Conc
/-- A function's body,walked from what it is given. -/
def Agd(C:Ctx)(f:FuncId)(r:Nat)(args:List Value)(ρ:Ro)(σ:Own)(R:Value→Ro→Own→Prop):Prop :=
 ∃fn c,C.P.funcs[f]?=some fn∧fn.body=some c∧fn.results = #[.tmp r]∧args.length≤fn.ntmps ∧
  ∀Q:Hu,(∀e ρ' σ',R (e r) ρ' σ'→Q .ret e [] ρ' σ')→(∀e ρ' σ',R (e r) ρ' σ'→Q .normal e [] ρ' σ')→WpC C ⟨f,.normal,none⟩ fn.ntmps c Q (Pn args) [] ρ σ
theorem Azb{C:Ctx}{f:FuncId}{fn:Func}{c:Code}{n r:Nat}{args:List Value}{ρ:Ro}{σ:Own}{R:Value→Ro→Own→Prop}(hf:C.P.funcs[f]?=some fn)(hc:fn.body=some c)(hn:fn.ntmps=n)(ha:Nat.ble args.length n=true)(hr:fn.results = #[.tmp r])
  (h:∀Q:Hu,(∀e ρ' σ',R (e r) ρ' σ'→Q .ret e [] ρ' σ')→(∀e ρ' σ',R (e r) ρ' σ'→Q .normal e [] ρ' σ')→WpC C ⟨f,.normal,none⟩ n c Q (Pn args) [] ρ σ):Agd C f r args ρ σ R :=
 ⟨fn,c,hf,hc,hr,hn ▸ lZ2 ha,hn ▸ h⟩
end
section
open Go Go.WideShapes Go.ChangeShapes Go.RowKit Go.Conc
section
variable{H:Type}{enc:TypeId×Value→H}{W:World}{r:Reach}{base t:Nat}{v:Value}{d:DataW H}{p:List MemPlace}
theorem Aqh{α:Type}[Dat α]{el:TypeId}(hd:Api (List α) t)(ht:Tryz.prog.underlying t=some (.slice el))(hv:Value.okWide Tryz.prog W r base t v)(h:DataW.Trod enc Tryz.prog W 0 (fun _=>true) true t v d p)(hw:∀n∈d.weights Tryz.prog t,n≤reachBytes):∃a:List α,Val (roW W) v a:=by
 obtain⟨a,len,cap,rfl⟩:=okWide_slice ht hv
 obtain⟨b,hf⟩:=h
 obtain⟨xs,c⟩:=hd.2 H enc W b [.slice a len cap] (d,p) hf hw
 exact⟨xs,_,c,rfl⟩
end
theorem Ann{H:Type}{P:Program}{ts:List TypeId}{ds:List (DataW H)}(h:(DataW.weightsEach P ts ds).all (·≤reachBytes)=true){j:Nat}{t:TypeId}{d:DataW H}(ht:ts[j]?=some t)(hd:ds[j]?=some d):∀n∈d.weights P t,n≤reachBytes:=fun n hn=>by
 have:=Gn.1 h _ (DataW.weights_mem_each ht hd n hn)
 simpa using this
theorem Zw{P:Program}{W:World}{n:String}{g:Nat}{cs:Array Value}(hg:P.globalNamed n=some g)(h:W.var? P n=some cs):∃t fz,W.heap[g]?=some (.cells cs t fz):=by
 simp only[World.var?,hg,Avy]at h
 split at h
 ·rename_i cs' t fz hh
  cases h
  exact⟨t,fz,hh⟩
 ·cases h
end
section
open Go Go.WideShapes Go.ChangeShapes Go.RowKit Go.Conc
theorem Art:ownKnob Tryz.prog.godebug=none:=by kernel_rfl
theorem Aid:laidOutB Tryz.prog=true:=by kernel_rfl
theorem Sb{H:Type}{enc:TypeId×Value→H}{P:Program}{w:World}{base:Nat}{spare:Nat→Bool}{held:Bool}:∀{ts:List TypeId} {vs:List Value} {ds:List (DataW H)} {ps:List MemPlace},DataW.TrodAll enc P w base spare held ts vs ds ps→vs.length=ts.length∧ds.length=ts.length
 | [],[],[],_,_=>⟨rfl,rfl⟩
 | t::ts,v::vs,d::ds,_,⟨p,q,_,h,_⟩=>by have:=Sb h;simp[this]
 | [],[],_::_,_,h=>h.elim
 | [],_::_,_,_,h=>h.elim
 | _::_,[],_,_,h=>h.elim
 | _::_,_::_,[],_,h=>h.elim
theorem Oo{H:Type}{enc:TypeId×Value→H}{W W':World}(hb:Below W.heap.size W W'):∀{ts:List TypeId} {vs:List Value} {ds:List (DataW H)} {ps:List MemPlace},(∀t∈ts,Tryz.prog.readableRec t=true∧t<Tryz.prog.types.size)→(∀x∈ps,x.block<W.heap.size) →
  DataW.TrodAll enc Tryz.prog W 0 (fun _=>true) true ts vs ds ps→DataW.TrodAll enc Tryz.prog W' 0 (fun b=>decide (b<W.heap.size)) true ts vs ds ps
 | [],[],[],_,_,_,h=>h
 | t::ts,v::vs,d::ds,_,ht,hl,⟨p,q,h1,h2,he⟩=>⟨p,q,Below.trod Aid (ht t mC).1 (ht t mC).2 h1 hb fun x hx=>hl x (he ▸ Ia _ hx),Oo hb (fun t h=>ht t (lZ0 _ h)) (fun x hx=>hl x (he ▸ Hb _ hx)) h2,he⟩
 | [],[],_::_,_,_,_,h=>h.elim
 | [],_::_,_,_,_,_,h=>h.elim
 | _::_,[],_,_,_,_,h=>h.elim
 | _::_,_::_,[],_,_,_,h=>h.elim
/-- A tied card without a companion,of a function that starts goroutines. -/
theorem Ata(Lk:Looks){p:Pinned}{s:OpenSpec}{c:OpenClaim}(kinds:List LaidKind)(tests:Bool)(har:Bool×String)(lk:Bool)
  (hc:c.holds p s) (hw:c.wfByText s=true) (htie:c.laidByTextAt Lk p kinds tests)
  (hst:c.start = .entering) (hnb:c.noBlocks=false∧c.again=false) (hm:p.checked.prog.mainIs=some (har.1,har.2.toList)) (hn:(!har.1&&har.2.isEmpty && !lk)=false)
  (hl:∀f fn,p.checked.prog.funcNamed c.func=some f→p.checked.prog.funcs[f]?=some fn→lk=p.checked.prog.looks []∧∀(j:Nat) t,fn.params[j]?=some t→p.checked.prog.wantsStandIn t=false)
  (hg:true=c.goesBy p.checked.prog) :
  Claim7.holds p (.plain s) {stood:={row:=c,standIns:=[],harness:=har,looks:=lk},kinds:=[],alts:=[],goes:=true,laidByText:=true,laidKinds:=kinds,laidTests:=tests,laidLooks:=Lk}:=by
 have a:∀r:OpenClaim,Claim7.isSixth {stood:={row:=r,standIns:=[],harness:=har,looks:=lk},kinds:=[]}=false:=fun r=>by simpa[Claim7.isSixth]using hn
 exact⟨Claim7.tied_new_at Lk kinds tests (Claim7.new_of_sixth hc har lk hst hnb hm (a c) hl) hw,(fun D hD=>by cases hD),htie,(fun h=>by cases h),hg⟩
end
section
open Go
/-- A call that returns,or panics. -/
def CallsP(C:Ctx)(f:FuncId)(args:Array Value)(ρ:Ro)(σ:Own)(R X:Value→Ro→Own→Prop):Prop :=
 ∀c cs,GoesH C (fun fr cs' ρ' σ'=>cs'=cs∧((∃v,fr=Frame.finish c v∧R v ρ' σ')∨∃x,fr=Frame.raise c [⟨x,false,false⟩]∧X x ρ' σ')) (Frame.enter C.P f args .normal) (c::cs) ρ σ
def RoundP(C:Ctx)(l:Nat)(f:FuncId)(tmps:Array Value)(assign body:Code)(ρ:Ro)(σ:Own)(R X:Value→Ro→Own→Prop):Prop :=
 ∀c cs,GoesH C (fun fr cs' ρ' σ'=>cs'=cs∧((∃v,fr=Frame.finish c v∧R v ρ' σ')∨∃x,fr=Frame.raise c [⟨x,false,false⟩]∧X x ρ' σ')) (Frame.round l f tmps assign body .normal) (c::cs) ρ σ
theorem CallsP.mono{C:Ctx}{f:FuncId}{args:Array Value}{ρ:Ro}{σ:Own}{R R' X X':Value→Ro→Own→Prop}(h:CallsP C f args ρ σ R X)(hr:∀v ρ' σ',R v ρ' σ'→R' v ρ' σ')(hx:∀v ρ' σ',X v ρ' σ'→X' v ρ' σ'):CallsP C f args ρ σ R' X' :=
 fun c cs=>(h c cs).mono fun _ _ _ _ ⟨d,a⟩=>⟨d,a.elim (fun⟨v,a,b⟩=>.inl ⟨v,a,hr _ _ _ b⟩) fun⟨v,a,b⟩=>.inr ⟨v,a,hx _ _ _ b⟩⟩
theorem RoundP.mono{C:Ctx}{l:Nat}{f:FuncId}{tmps:Array Value}{assign body:Code}{ρ:Ro}{σ:Own}{R R' X X':Value→Ro→Own→Prop}(h:RoundP C l f tmps assign body ρ σ R X)(hr:∀v ρ' σ',R v ρ' σ'→R' v ρ' σ')(hx:∀v ρ' σ',X v ρ' σ'→X' v ρ' σ'):RoundP C l f tmps assign body ρ σ R' X' :=
 fun c cs=>(h c cs).mono fun _ _ _ _ ⟨d,a⟩=>⟨d,a.elim (fun⟨v,a,b⟩=>.inl ⟨v,a,hr _ _ _ b⟩) fun⟨v,a,b⟩=>.inr ⟨v,a,hx _ _ _ b⟩⟩
/-- What follows an operation that calls what may panic. -/
def NextP(C:Ctx)(K:Value→List Deferred→Ro→Own→Prop)(X:Value→Ro→Own→Prop)(ds:List Deferred)(ρ:Ro)(nx:Next)(σ:Own):Prop :=
 match nx with
 | .enter f args=>CallsP C f args ρ σ (fun v ρ' σ'=>K v ds ρ' σ') X
 | .round l f tmps assign body=>RoundP C l f tmps assign body ρ σ (fun v ρ' σ'=>K v ds ρ' σ') X
 | _=>False
theorem NextP.mono{C:Ctx}{K K':Value→List Deferred→Ro→Own→Prop}{X X':Value→Ro→Own→Prop}{ds:List Deferred}{ρ:Ro}{nx:Next}{σ:Own}(h:NextP C K X ds ρ nx σ)(hk:∀v ds ρ σ,K v ds ρ σ→K' v ds ρ σ)(hx:∀v ρ σ,X v ρ σ→X' v ρ σ):NextP C K' X' ds ρ nx σ:=by
 cases nx<;>simp only[NextP]at h ⊢
 ·exact h.mono (fun _ _ _ h=>hk _ _ _ _ h) hx
 ·exact h.mono (fun _ _ _ h=>hk _ _ _ _ h) hx
section
variable{C:Ctx}{V:Es}{b:FB}{n:Nat}{l₀ rest:List Oper}{Q:Env→List Deferred→Ro→Own→Prop}{e:Env}{ds:List Deferred}{ρ:Ro}{σ:Own}
theorem Zs{tm:Array Value}{todo:List Item}{x:Value}:Frame.raise (Fr b tm ds todo) [⟨x,false,false⟩]=FrP b tm ds todo x:=rfl
/-- An operation that calls what may panic. -/
theorem Bdy{o:Oper}(hw:Bz l₀.toArray o e=true)(h:wpS C.P ρ (execOp (Af e) o) σ (NextP C (fun v=>Bq C V b n l₀ rest Q (Ja e o.dst v)) (fun x ρ' σ'=>V x e ds ρ' σ') ds ρ)):Bq C V b n l₀ (o::rest) Q e ds ρ σ:=by
 intro pre j hs hk tm k cs ht
 have ho:l₀.toArray[pre.length]?=some o:=by subst j;simp
 rw[lZ7,Um]
 have m:∀e ds ρ σ,Bq C V b n l₀ rest Q e ds ρ σ→Md C V b n l₀.toArray (List.range' (pre.length+1) rest.length) Q e ds ρ σ:=fun e ds ρ σ h'=>by
  have:=h' (pre++[o]) (by rw[j];simp) hs hk
  simpa using this
 have hev:=ht.eval b ds (.inRegion l₀.toArray (pre.length::List.range' (pre.length+1) rest.length)::k)
 refine .step (fun fr' cs' σ'=>∃nx,NextP C (fun v=>Bq C V b n l₀ rest Q (Ja e o.dst v)) (fun x ρ' σ'=>V x e ds ρ' σ') ds ρ nx σ'∧Ss C.P (Fr b tm ds (.inRegion l₀.toArray (pre.length::List.range' (pre.length+1) rest.length)::k)) cs nx fr' cs') (fun W y=>?_) ?_
 ·obtain⟨nx,σ',W',es,g,a,p,q⟩:=Rr _ σ _ W #[] h y
  have hd:∀c,o.op = .defer c→b.round=none:=by
   intro c hc
   have hx:∃d,nx = .defer d:=by
    have w:execOp (Af e) o=(resolve (Af e) c o.type).bind fun d=>pure (Next.defer d):=by
     unfold execOp;rw[hc];rfl
    rw[w,Sem.runT_bind']at g
    split at g
    ·rename_i a' w' es' _
     have:(Result.ok (Next.defer a') w',es')=(Result.ok nx W',es):=g
     simp only[Prod.mk.injEq,Result.ok.injEq]at this
     exact⟨a',this.1.1.symm⟩
    ·simp at g
   obtain⟨d,rfl⟩:=hx
   exact a.elim
  have hnx:∃fr' cs',Ss C.P (Fr b tm ds (.inRegion l₀.toArray (pre.length::List.range' (pre.length+1) rest.length)::k)) cs nx fr' cs':=by
   cases nx<;>simp only[NextP]at a<;>exact⟨_,_,rfl,rfl⟩
  obtain⟨fr',cs',es',t,i,u⟩:=Sx (s:=execOp (Af e) o) (by exact hk) (by simp[Fr]) g hnx
  refine⟨fr',cs',W',es',σ',?_,p,fun ev he=>Afo q (u ev he),nx,a,i⟩
  rw[Np ho (by rw[Ij hs ht];exact hw) hd,hev]
  exact t
 ·rintro fr' cs' σ' ⟨nx,a,i⟩
  cases nx<;>simp only[NextP]at a
  case enter f args =>
   obtain⟨rfl,rfl⟩:=i
   refine(a _ cs).bind ?_
   rintro _ _ ρ' σ'' ⟨rfl,⟨v,rfl,hv⟩|⟨x,rfl,hx⟩⟩
   ·rw[Ju ho]
    exact m _ _ _ _ hv _ k _ (Jj hs ht ho v)
   ·exact .stop (.inr ⟨rfl,x,tm,_,ds,_,ht.2,Zs,hx⟩)
  case round l f tmps assign body =>
   obtain⟨rfl,rfl⟩:=i
   refine(a _ cs).bind ?_
   rintro _ _ ρ' σ'' ⟨rfl,⟨v,rfl,hv⟩|⟨x,rfl,hx⟩⟩
   ·rw[Ju ho]
    exact m _ _ _ _ hv _ k _ (Jj hs ht ho v)
   ·exact .stop (.inr ⟨rfl,x,tm,_,ds,_,ht.2,Zs,hx⟩)
/-- panic(x) -/
theorem Bas{dd:Option Tmp}{x:Operand}{ty t:TypeId}{pos:String}{af:Array Edge}{g:Option (Nat×Bool)}{u:Value}(hw:Bz l₀.toArray ⟨dd,.panic x,ty,pos,af,g⟩ e=true)(hx:Af e x = .iface t u)(hv:V (.iface t u) e ds ρ σ):Bq C V b n l₀ (⟨dd,.panic x,ty,pos,af,g⟩::rest) Q e ds ρ σ:=by
 intro pre a hs hk tm k cs ht
 have ho:l₀.toArray[pre.length]?=some ⟨dd,.panic x,ty,pos,af,g⟩:=by subst a;simp
 rw[lZ7,Um]
 have hev:=ht.eval b ds (.inRegion l₀.toArray (pre.length::List.range' (pre.length+1) rest.length)::k)
 refine Eh (fr':=FrP b tm ds (.inRegion l₀.toArray (pre.length::List.range' (pre.length+1) rest.length)::k) (.iface t u)) (cs':=cs) (fun W=>?_) (.stop (.inr ⟨rfl,_,tm,_,ds,_,ht.2,rfl,hv⟩))
 rw[Np ho (by rw[Ij hs ht];exact hw) (fun c hc=>by cases hc),hev]
 have hr:(execOp (Af e) ⟨dd,.panic x,ty,pos,af,g⟩).runT C.P W #[]=(.halt (.panic (.iface t u)) W,#[]):=by
  show ((Instr.panic (Af e x)).bind _:Sem Next).runT C.P W #[]=_
  rw[hx];rfl
 simp[stepG.apply,-Sem.runT_eq,hr,GStep.after,seen,Conc.G,Fr,FrP,Frame.raise]
end
section
variable{C:Ctx}{V:Es}{b:FB}{n:Nat}{e:Env}{ds:List Deferred}{ρ:Ro}{σ:Own}
/-- A frame that has deferred nothing is unwound. -/
theorem Vh{S:Cy}{tm:Array Value}{todo:List Item}{x:Value}{c:Frame}{cs:List Frame}{fn:Func}(hf:C.P.funcs[b.fn]?=some fn)(h:GoesH C S (Frame.raise c [⟨x,false,false⟩]) cs ρ σ):GoesH C S (FrP b tm [] todo x) (c::cs) ρ σ :=
 Eh (fun W=>by
  simp[Conc.G,stepG,FrP,Fr,unwind,Frame.catches,hf]) h
theorem Ahk{f:FuncId}{fn:Func}{c:Code}{args:List Value}{R X:Value→Ro→Own→Prop}(hf:C.P.funcs[f]?=some fn)(hc:fn.body=some c)(hn:fn.ntmps=n)(ha:args.length≤n)
  (h:WpP C (fun x _ ds ρ' σ'=>ds=[]∧X x ρ' σ') ⟨f,.normal,none⟩ n c (fun ex e ds ρ' σ'=>(∀id,ex ≠ .exit id)∧Aki C fn R e ρ' ds σ') (Pn args) [] ρ σ):CallsP C f args.toArray ρ σ R X:=by
 intro c' cs
 have g:Frame.enter C.P f args.toArray .normal=Fr ⟨f,.normal,none⟩ (args.toArray++Array.replicate (n-args.toArray.size) undef) [] [.code c]:=by
  simp[Frame.enter,hf,hc,hn,Fr]
 rw[g]
 refine(h _ [] (c'::cs) (Tn ha)).bind ?_
 rintro _ _ ρ' σ' (⟨rfl,ex,tm',e',ds',a,i,⟨j,k⟩,d,rfl⟩|⟨rfl,x,tm',_,ds',a,_,rfl,rfl,hX⟩)
 ·have fin:∀a,GoesH C (fun fr cs' ρ' σ'=>cs'=cs∧((∃v,fr=Frame.finish c' v∧R v ρ' σ')∨∃x,fr=Frame.raise c' [⟨x,false,false⟩]∧X x ρ' σ')) {Fr ⟨f,.normal,none⟩ tm' ds' a with mode:=.returning} (c'::cs) ρ' σ' :=
   fun a=>Ahz (b:=⟨f,.normal,none⟩) hf rfl i k fun v ρ'' σ'' hv=>.stop ⟨rfl,.inl ⟨v,rfl,hv⟩⟩
  cases ex with
  | normal =>
   cases d
   exact Eh (fr':={Fr ⟨f,.normal,none⟩ tm' ds' [] with mode:=.returning}) (cs':=c'::cs) (fun W=>by simp[Conc.G,stepG,stepG.exec,Fr]) (fin _)
  | exit id=>exact absurd rfl (j id)
  | ret =>
   obtain⟨pre,rfl⟩:=d
   exact Eh (fr':={Fr ⟨f,.normal,none⟩ tm' ds' (.code .ret::(pre++[])) with mode:=.returning}) (cs':=c'::cs) (fun W=>by simp[Conc.G,stepG,stepG.exec,Fr]) (fin _)
 ·exact Vh (b:=⟨f,.normal,none⟩) hf (.stop ⟨rfl,.inr ⟨x,rfl,hX⟩⟩)
end
end
section
open Go
def inR(n low high:Int):Bool:=decide (low≤n)&&decide (n≤high)
theorem Fz{n low high:Int}:inR n low high=true↔low≤n∧n≤high:=by simp[inR]
theorem Bck{n low high:Int}:inR n low high=false↔n<low∨high<n:=by
 cases h:inR n low high
 ·have:¬(low≤n∧n≤high):=fun h'=>by rw[Fz.2 h']at h;cases h
  simp only[true_iff];omega
 ·have:=Fz.1 h
  simp only[Bool.true_eq_false,false_iff];omega
theorem Eg{p:Nat→Prop}{i:Nat}(h:∀j,j<i→p j)(h':p i):∀j,j<i+1→p j:=fun j hj=>by
 rcases Mi j i with hlt|hge
 ·exact h j hlt
 ·obtain rfl:j=i:=by omega
  exact h'
/-- A byte that no name has. -/
def Ov(c:Int):Bool:=(decide (c<97)||decide (c>122))&&(decide (c<48)||decide (c>57))&&(c != 45)
def Alm(s:ByteArray)(j:Nat):Bool:=match s[j]? with|some c=>!Ov ((c.toNat:Nat):Int)|none=>true
def Qb(s:ByteArray):Bool:=match s[0]? with|some c=>!decide (((c.toNat:Nat):Int)<97) && !decide (((c.toNat:Nat):Int)>122)|none=>true
def Hg(s:ByteArray):Bool:=inR s.size 1 14&&Qb s&&(List.range s.size).all (Alm s)
/-- The first index of a property. -/
def Cl(n:Nat)(p:Nat→Bool):Option Nat:=(List.range n).find? p
theorem Fh{n i:Nat}{p:Nat→Bool}(h:∀j,j<i→p j=false)(hi:i<n)(hp:p i=true):Cl n p=some i:=by
 unfold Cl
 rw[List.find?_range_eq_some]
 exact⟨hp,by simpa using hi,fun j hj=>by simp[h j hj]⟩
theorem Ep{n:Nat}{p:Nat→Bool}(h:∀j,j<n→p j=false):Cl n p=none:=by
 unfold Cl
 rw[List.find?_eq_none]
 intro j hj
 simp[h j (by simpa using hj)]
theorem Ft{n:Nat}{p:Nat→Bool}:(∃i,i<n∧p i=true∧(∀j,j<i→p j=false)∧Cl n p=some i)∨((∀j,j<n→p j=false)∧Cl n p=none):=by
 cases h:Cl n p with
 | some i =>
  unfold Cl at h
  rw[List.find?_range_eq_some]at h
  exact .inl ⟨i,by simpa using h.2.1,h.1,fun j hj=>by simpa using h.2.2 j hj,rfl⟩
 | none =>
  unfold Cl at h
  rw[List.find?_eq_none]at h
  exact .inr ⟨fun j hj=>by simpa using h j (by simpa using hj),rfl⟩
def atP{α:Type}(l:List α)(p:α→Bool)(i:Nat):Bool:=match l[i]? with|some x=>p x|none=>false
def Oi{α:Type}(l:List α)(p:α→Bool):Int:=match Cl l.length (atP l p) with|some i=>(i:Int)|none=>-1
theorem Yq{α:Type}{l:List α}{p:α→Bool}:decide (Oi l p≥0)=l.any p:=by
 rw[Amo,decide_eq_true_eq,Avu]
 unfold Oi
 rcases Ft (n:=l.length) (p:=atP l p) with⟨i,hi,hp,_,he⟩|⟨b,he⟩
 ·rw[he]
  simp only[ge_iff_le,Ain,true_iff]
  unfold atP at hp
  cases hx:l[i]? with
  | none=>rw[hx]at hp;cases hp
  | some x=>rw[hx]at hp;exact⟨x,lZ3 hx,hp⟩
 ·rw[he]
  constructor
  ·intro h;simp at h
  ·rintro⟨x,hx,hs⟩
   obtain⟨i,hi⟩:=We hx
   have:=b i (lZ8.1 hi).1
   unfold atP at this
   simp only[hi,hs]at this
   cases this
/-- The bytes of a name. -/
theorem Akl{s:ByteArray}:(s.data.toList.any fun c=>Ov ((c.toNat:Nat):Int)) = !(List.range s.size).all (Alm s):=by
 rw[Amo]
 simp only[Avu,Bool.not_eq_true',List.all_eq_false,Acr]
 have a:∀i (h:i<s.size),s[i]?=some (s.data[i]'h):=fun i h=>by
  rw[getElem?_pos s i h];rfl
 constructor
 ·rintro⟨c,hc,hb⟩
  obtain⟨i,hi,rfl⟩:=Avp hc
  have hi':i<s.size:=by simpa using hi
  refine⟨i,hi',?_⟩
  simp only[Alm,a i hi']
  simpa using hb
 ·rintro⟨i,hi,hb⟩
  refine⟨s.data[i]'hi,by simp,?_⟩
  simp only[Alm,a i hi]at hb
  simpa using hb
end
section
open Go
variable{mn:Bool}{X:Frame→List Frame→Ro→Own→Cy→Prop}{ρ:Ro}{σ:Own}
theorem Ya{l:List UInt8}{vl f:Value}{p:UInt8→Bool}(rl:Val ρ vl l)(hf:Su f p):CallsH (CX mn X) 105 #[vl,f] ρ σ (rP ρ σ (iV (Oi l p))):=by
 refine Ba 19 [4] Tryz.func105 rfl fun Q y a0=>w_q rfl rfl fun N B=>Av (iV 0) (Ary rfl rfl B fun U V G H=>Au vl ?_)
 have g4:=Val.len rl
 refine l_v (Ci (el:=5) Bjb rfl rl) (Au (iV 0) (l_k H (Ao (Cc (fun mm ee dd ρ' σ'=>∃(i:Nat),(l.length-i)=mm∧[]=dd∧ρ=ρ'∧σ=σ'∧ee 0=vl∧ee 1=f∧ee 7=(iV (l.length:Int))∧ee 8=iV i∧(i≤l.length)∧(∀j,j<i→atP l p j=false)∧True) (m:=_) ⟨0,rfl,rfl,rfl,rfl,rfl,rfl,rfl,rfl,Oc _,fun j h=>absurd h (Aiz _),trivial⟩ ?_))))
 rintro m5 e5 _ _ _ ⟨i,rfl,rfl,rfl,rfl,u,w,x,e,a1,k,_⟩
 refine w_q rfl rfl fun W I=>l_v (Da e x) (Asa I fun Y J=>Bp (t:=decide ((i:Int)<(l.length:Int))) rfl (fun b=>?_) (fun b=>?_))
 ·have L:=Ee b
  refine Al (kk J ?_)
  refine Ai fun Z K=>Ao (w_q rfl rfl fun O C=>l_v (Ah (v:=iV i) e) (Av (iV i) (Arx rfl rfl C fun P D=>l_v (Ah (v:=f) w) (l_v (Ah (v:=vl) u) (Au (iV i) ?_)))))
  obtain⟨c,g⟩:=Ed (xs:=l) (i:=i) (by omega)
  refine Arw (Ch i Bjb ty5 rfl rl (q:=(i:Int)) rfl rfl g) fun a2 M=>l_v (Aaf ty5 rfl M) (Arv (Ajp (pr:=p) (a:=c) (v:=.int .u8 (c.toNat:Int)) hf rfl rfl (Uq.2 rfl) ?_))
  refine l_k D (Bp (t:=p c) rfl (fun d=>?_) (fun d=>?_))
  ·refine w_q rfl rfl fun R E=>Au (iV i) (Av (iV i) (l_k E (Aq (y (rT (iV i) ?_)))))
   have hi:=Fh (n:=l.length) k (by omega) (show atP l p i=true by simp only[atP,g,b,d])
   simp only[Oi,hi]
  refine Al (kk K ?_)
  refine Ag rfl rfl (l_v (Br e rfl (z:=(((i+1):Nat):Int)) wrE) (Au (iV ((i+1):Nat)) (Ac ?_)))
  refine⟨_,?_,(i+1),rfl,rfl,rfl,rfl,u,w,x,rfl,(by omega),(Eg k (by simp only[atP,g,b,d])),trivial⟩
  omega
 have L:=Fv b
 refine Bx (kk G ?_)
 refine w_q rfl rfl fun T F=>Av (iV (-1)) (l_k F (Aq (y (rT (iV (-1)) ?_))))
 have hn:=Ep (n:=l.length) fun j hj=>k j (by omega)
 simp only[Oi,hn]
theorem Ta{l:List UInt8}{vl f:Value}{p:UInt8→Bool}(rl:Val ρ vl l)(hf:Su f p):CallsH (CX mn X) 50 #[vl,f] ρ σ (rP ρ σ (.bool (l.any p))):=by
 refine Ba 9 [4] Tryz.func50 rfl fun Q a g=>w_q rfl rfl fun d b=>Av bF (Arx rfl rfl b fun e c=>Au vl (Au f (Arv (Hr (Ya rl hf) Tryz.func105 ?_))))
 refine l_v (Uy rfl rfl) (Av (.bool (decide (Oi l p≥0))) (l_k c (Aq (a (rT (.bool (decide (Oi l p≥0))) ?_)))))
 rw[Yq]
end
section
open Go
/-- A string of bytes. -/
def bs(l:List UInt8):ByteArray:=⟨l.toArray⟩
theorem Ea(l:List UInt8):(bs l).size=l.length:=by simp[bs,ByteArray.size]
theorem Bdc{l m:List UInt8}(h:bs l=bs m):l=m:=by have:=congrArg (fun s:ByteArray=>s.data.toList) h;exact this
theorem Pr(l:List UInt8):(bs l).toList=l:=by rw[ByteArray.toList_eq];rfl
theorem Bcz(l m:List UInt8):bs l++bs m=bs (l++m):=by
 apply ByteArray.ext
 show (bs l++bs m).data=_
 rw[ByteArray.data_append]
 simp[bs]
theorem Bdb(l:List UInt8)(i:Nat):(bs l)[i]?=l[i]?:=by
 by_cases h:i<l.length
 ·rw[Qq h,getElem?_pos (bs l) i (by rw[Ea];exact h)]
  rfl
 ·rw[Lo (by omega),getElem?_neg (bs l) i (by rw[Ea];exact h)]
theorem Xm(l:List UInt8)(i j:Nat):(bs l).extract i j=bs ((l.take j).drop i):=by
 apply ByteArray.ext
 rw[ByteArray.data_extract]
 simp[bs,List.extract_toArray,List.drop_take]
def Azr:Nat→Nat→List UInt8
 | 0,n=>[UInt8.ofNat (48+n%10)]
 | k+1,n=>if n<10 then [UInt8.ofNat (48+n)] else Azr k (n/10)++[UInt8.ofNat (48+n%10)]
def Ev(n:Nat):List UInt8:=Azr 20 n
theorem Abx:∀{k n:Nat},n<10^(k+1)→∀j,Azr (k+j) n=Azr k n
 | 0,n,h,j=>by
  cases j with
  | zero=>rfl
  | succ j=>show (if n<10 then _ else _)=_;rw[if_pos (by simpa using h)];show [UInt8.ofNat (48+n)]=[UInt8.ofNat (48+n%10)];rw[Nat.mod_eq_of_lt (by simpa using h)]
 | k+1,n,h,j=>by
  rw[show k+1+j=(k+j)+1 by omega]
  show (if n<10 then _ else _)=(if n<10 then _ else _)
  by_cases h1:n<10
  ·rw[if_pos h1,if_pos h1]
  ·rw[if_neg h1,if_neg h1,Abx (by rw[Nat.pow_succ]at h;omega) j]
theorem Bdk{n:Nat}(h:n<10):Ev n=[UInt8.ofNat (48+n)]:=by
 show (if n<10 then _ else _)=_;rw[if_pos h]
theorem Bdl{n:Nat}(h:10≤n)(hb:n<10^20):Ev n=Ev (n/10)++[UInt8.ofNat (48+n%10)]:=by
 show (if n<10 then _ else _)=_
 rw[if_neg (by omega)]
 unfold Ev
 rw[Abx (k:=19) (n:=n/10) (by omega) 1]
/-- What stands between separators. -/
def Ir(c:UInt8)(acc:List UInt8):List UInt8→List (List UInt8)
 | []=>[acc]
 | x::r=>if x=c then acc::Ir c [] r else Ir c (acc++[x]) r
def Bv(s:List UInt8):List (List UInt8):=Ir 32 [] s
def Dm(c:UInt8):Bool:=decide (48≤c.toNat)&&decide (c.toNat≤57)
def Yb(l:List UInt8):Nat:=l.foldl (fun n c=>10*n+(c.toNat-48)) 0
def Lz(s:List UInt8):Bool:=decide (s.length>1)&&s.head?==some 45
def Hj(s:List UInt8):List UInt8:=if Lz s then s.drop 1 else s
def Ho(s:List UInt8):Bool:=decide (1≤(Hj s).length)&&decide ((Hj s).length≤9)&&(Hj s).all Dm && !((Hj s).head?==some 48 && !(s==[48]))
def Ie(s:List UInt8):Int:=if Lz s then -(Yb (Hj s):Int) else (Yb (Hj s):Int)
theorem Nv:∀{w acc r:List UInt8},(∀c∈w,c≠32)→Ir 32 acc (w++32::r)=(acc++w)::Ir 32 [] r
 | [],acc,r,_=>by show (if (32:UInt8)=32 then _ else _)=_;rw[if_pos rfl,Jt]
 | x::w,acc,r,h=>by
  show (if x=32 then _ else Ir 32 (acc++[x]) (w++32::r))=_
  rw[if_neg (h x mC),Nv (fun c hc=>h c (lZ0 _ hc))]
  simp
theorem Rw:∀{w acc:List UInt8},(∀c∈w,c≠32)→Ir 32 acc w=[acc++w]
 | [],acc,_=>by show [acc]=_;rw[Jt]
 | x::w,acc,h=>by
  show (if x=32 then _ else _)=_
  rw[if_neg (h x mC),Rw (fun c hc=>h c (lZ0 _ hc))]
  simp
theorem Ur{d:Nat}(h:d<10):(UInt8.ofNat (48+d)).toNat=48+d:=by
 rw[UInt8.toNat_ofNat'];omega
theorem Ahm{l:List UInt8}{c:UInt8}:Yb (l++[c])=10*Yb l+(c.toNat-48):=by
 unfold Yb;rw[List.foldl_append];rfl
structure DigOk(n:Nat)(l:List UInt8):Prop where
 ne:l≠[]
 dig:∀c∈l,Dm c=true
 dec:Yb l=n
 len:∀k,n<10^(k+1)→l.length≤k+1
 head:l.head?=some 48→l=[48]
theorem Aoa{d:Nat}(h:d<10):Dm (UInt8.ofNat (48+d))=true:=by
 unfold Dm
 rw[Ur h]
 simp;omega
theorem Bdm:∀(n:Nat),n<10^20→DigOk n (Ev n):=by
 intro n
 induction n using Nat.strongRecOn with
 | _ n ih =>
  intro hn
  by_cases h:n<10
  ·rw[Bdk h]
   refine⟨by simp,fun c hc=>by rw[Jd.1 hc];exact Aoa h,?_,fun k _=>by simp,fun hh=>?_⟩
   ·show 10*0+((UInt8.ofNat (48+n)).toNat-48)=n
    rw[Ur h];omega
   ·simpa using hh
  ·have i:=ih (n/10) (by omega) (by omega)
   rw[Bdl (by omega) hn]
   have hm:n%10<10:=by omega
   refine⟨by simp,fun c hc=>?_,?_,fun k hk=>?_,fun hh=>?_⟩
   ·rcases lZ9.1 hc with hc|hc
    ·exact i.dig c hc
    ·rw[Jd.1 hc];exact Aoa hm
   ·rw[Ahm,i.dec,Ur hm];omega
   ·cases k with
    | zero=>exact absurd hk (by simpa using h)
    | succ k=>have:=i.len k (by rw[Nat.pow_succ]at hk;omega);rw[lZ1];simp only[lZ7,Ic];omega
   ·have d:(Ev (n/10)).head?=some 48:=by
     cases hd:Ev (n/10) with
     | nil=>exact absurd hd i.ne
     | cons a l=>rw[hd]at hh;simpa using hh
    have e:=i.head d
    have b:=i.dec
    rw[e]at b
    exact absurd (show (0:Nat)=n/10 from b) (by omega)
end
section
open Go
section
variable{P:Program}{ρ:Ro}{e:Env}{ty t t':TypeId}{x y:Operand}{v:Value}
theorem Aed{p q:List UInt8}(hx:Af e x = .string (bs p))(hy:Af e y = .string (bs q))(hb:p.length+q.length<4611686018427387904):Yld P ρ e (.binOp .add t x y t') ty (.string (bs (p++q))) :=
 La hx hy rfl (by
  show Op.stringOp .add (bs p) (bs q)=_
  unfold Op.stringOp
  simp only
  rw[if_neg (by rw[Ea,Ea];show ¬_>(9223372036854775807:Int);omega),Bcz])
theorem sbH{n h:Nat}{c:BoundsCode}(h2:h≤n):Instr.sliceBound (.int .i64 (h:Int)) n c=Sem.pure h:=by
 show (if 0≤(h:Int)∧(h:Int)≤(n:Nat) then pure (h:Int).toNat else _)=_
 rw[if_pos (by omega)];simp;rfl
theorem Anw{α β:Type}{s:Sem α}{a:α}{f:α→Sem β}(h:s=Sem.pure a):s.bind f=f a:=by subst h;rfl
theorem sb4{n h l:Nat}{x y:Value}(h1:Instr.sliceBound y h .sliceB=Sem.pure l)(h2:Instr.sliceBound x n .sliceAlen=Sem.pure h):Instr.sliceBounds false n n (some y) (some x) none=pure (l,h,n):=by
 unfold Instr.sliceBounds
 simp only[Aip,Zc,if_false]
 show (Instr.sliceBound x n .sliceAlen).bind _=_
 rw[Anw h2]
 show (Instr.sliceBound y h .sliceB).bind _=_
 rw[Anw h1]
theorem sliceB{n:Nat}{lo hi:Option Value}{l h:Nat}(hl:(lo=none∧l=0)∨lo=some (.int .i64 (l:Int)))(hh:(hi=none∧h=n)∨hi=some (.int .i64 (h:Int)))(h1:l≤h)(h2:h≤n):Instr.sliceBounds false n n lo hi none=pure (l,h,n):=by
 rcases hh with⟨rfl,rfl⟩|rfl<;>rcases hl with⟨rfl,rfl⟩|rfl
 ·rfl
 ·have e:Instr.sliceBounds false h h (some (.int .i64 (l:Int))) none none=(Instr.sliceBound (.int .i64 (l:Int)) h .sliceB).bind fun l=>Sem.pure (l,h,h):=rfl
  rw[e,Anw (sbH h1)];rfl
 ·have e:Instr.sliceBounds false n n none (some (.int .i64 (h:Int))) none=(Instr.sliceBound (.int .i64 (h:Int)) n .sliceAlen).bind fun h=>Sem.pure (0,h,n):=rfl
  rw[e,Anw (sbH h2)];rfl
 ·exact sb4 (sbH h1) (sbH h2)
theorem Pp{p:List UInt8}{lo hi:Option Operand}{l h:Nat}(hT:P.underlying t=some .string)(hx:Af e x = .string (bs p))(hl:(lo=none∧l=0)∨∃o,lo=some o∧Af e o = .int .i64 (l:Int))(hh:(hi=none∧h=p.length)∨∃o,hi=some o∧Af e o = .int .i64 (h:Int))(h1:l≤h)(h2:h≤p.length) :
  Yld P ρ e (.slice t x lo hi none) ty (.string (bs ((p.take h).drop l))) :=
 Mt (s:=Instr.sliceAt t (Af e x) (lo.map (Af e)) (hi.map (Af e)) none) (fun _ _ _ _=>rfl) fun ρ' σ _=>by
  rw[hx]
  show wpS P ρ' ((underlying t).bind _) σ _
  rw[Ad]
  refine Az hT ?_
  show wpS P ρ' ((underlying t).bind _) σ _
  rw[Ad]
  refine Az hT ?_
  simp only[]
  show wpS P ρ' ((Instr.sliceBounds false (bs p).size (bs p).size (lo.map (Af e)) (hi.map (Af e)) none).bind _) σ _
  rw[sliceB (l:=l) (h:=h) (by
   rcases hl with⟨rfl,a⟩|⟨o,rfl,ho⟩
   ·exact .inl ⟨rfl,a⟩
   ·exact .inr (by rw[Ze,ho])) (by
   rcases hh with⟨rfl,a⟩|⟨o,rfl,ho⟩
   ·exact .inl ⟨rfl,a.trans (Ea p).symm⟩
   ·exact .inr (by rw[Ze,ho])) h1 (by rw[Ea];exact h2)]
  exact⟨by show Value.string ((bs p).extract l h)=_;rw[Xm],rfl⟩
theorem Fs{p:List UInt8}{k:IntKind}{q:Int}(i:Nat)(c:UInt8)(hT:P.underlying t=some .string)(hx:Af e x = .string (bs p))(hy:Af e y = .int k q)(hq:q=(i:Int))(hc:p[i]?=some c):Yld P ρ e (.index t x y) ty (.int .u8 (c.toNat:Int)) :=
 Ace i c hT hx hy hq (by rw[Bdb];exact hc)
theorem Ce{p:List UInt8}(hT:P.underlying t=some .string)(hx:Af e x = .string (bs p)):Yld P ρ e (.call ⟨.builtin .len,#[x],#[t]⟩) ty (.int .i64 (p.length:Int)):=Afz hT hx
theorem Tq{p q:List UInt8}(hx:Af e x = .string (bs p))(hy:Af e y = .string (bs q)):Yld P ρ e (.binOp .eql t x y t') ty (.bool (p==q)):=by
 have:=Bhp (P:=P) (ρ:=ρ) (t:=t) (t':=t') (ty:=ty) hx hy
 rw[Pr,Pr]at this;exact this
theorem Aef{p q:List UInt8}(hx:Af e x = .string (bs p))(hy:Af e y = .string (bs q)):Yld P ρ e (.binOp .neq t x y t') ty (.bool (p != q)):=by
 have:=Bhr (P:=P) (ρ:=ρ) (t:=t) (t':=t') (ty:=ty) hx hy
 rw[Pr,Pr]at this;exact this
end
theorem bytesTo{P:Program}{ρ:Ro}{σ:Own}{Q:ByteArray→Own→Prop}:∀(l:List UInt8) (s:ByteArray),Q (s++bs l) σ→wpS P ρ (forIn (l.map fun c:UInt8=>Value.int .u8 (c.toNat:Int)) s fun c s=>match c with
  | .int .u8 n=>pure (ForInStep.yield (s.push (UInt8.ofNat n.toNat)))
  | _=>do
   stuck "bytesToString: byte expected"
   pure (ForInStep.yield s)) σ Q
 | [],s,h=>by
  have e:s++bs []=s:=by apply ByteArray.ext;rw[ByteArray.data_append];simp[bs]
  rw[e]at h
  exact h
 | c::l,s,h=>by
  rw[Ez,Aov]
  refine bytesTo l (s.push (UInt8.ofNat ((c.toNat:Nat):Int).toNat)) ?_
  have e:s.push (UInt8.ofNat ((c.toNat:Nat):Int).toNat)++bs l=s++bs (c::l):=by
   apply ByteArray.ext
   rw[ByteArray.data_append,ByteArray.data_append]
   show (s.data.push _)++l.toArray=s.data++(c::l).toArray
   rw[show UInt8.ofNat ((c.toNat:Nat):Int).toNat=c by rw[Age];exact UInt8.ofNat_toNat]
   apply Array.ext'
   simp
  rw[e];exact h
theorem Agp{ρ:Ro}:∀{cs:List Value} {l:List UInt8},Rows ρ cs l→cs=l.map fun c:UInt8=>Value.int .u8 (c.toNat:Int)
 | cs,[],h=>h
 | cs,c::l,⟨c1,c2,h1,h2,h3⟩=>by
  rw[h1,Agp h3]
  rw[show c1=[Value.int .u8 (c.toNat:Int)] from h2];rfl
theorem Bfx{P:Program}{ρ:Ro}{e:Env}{ty t t':TypeId}{x:Operand}{v:Value}{l:List UInt8}{el:TypeId}(hT:P.underlying t=some (.slice el))(hT':P.underlying t'=some .string)(hE:P.underlying el=some (.int .u8))(hx:Af e x=v)(hv:Val ρ v l):Yld P ρ e (.convert t t' x) ty (.string (bs l)) :=
 Mt (s:=convert t t' (Af e x)) (fun _ _ _ _=>rfl) fun ρ' σ hle=>by
  rw[hx]
  obtain⟨a,len,cap,f,d,j,m,g⟩:=Cs.1 hv
  subst f
  show wpS P ρ' ((underlying t).bind _) σ _
  rw[Ad]
  refine Az hT ?_
  show wpS P ρ' ((underlying t').bind _) σ _
  rw[Ad]
  refine Az hT' ?_
  show wpS P ρ' ((underlying el).bind _) σ _
  rw[Ad]
  refine Az hE ?_
  show wpS P ρ' (Conv.bytesToString (.slice a len cap)) σ _
  have hf:=Uw (P:=P) (σ:=σ) (ρ:=ρ') (Q:=fun cs σ'=>cs=(l.map fun c:UInt8=>Value.int .u8 (c.toNat:Int)).toArray∧σ'=σ) (hv.mono hle) fun cs hr=>⟨by rw[Agp hr],rfl⟩
  cases a with
  | none =>
   have i:l=[]:=by
    cases l with
    | nil=>rfl
    | cons c r=>obtain⟨b,off,h,_⟩:=g 0 c rfl;cases h
   subst i
   exact⟨rfl,rfl⟩
  | some a =>
   unfold Conv.bytesToString
   simp only
   show wpS P ρ' ((loadCells a len).bind _) σ _
   rw[Ad,←d]
   rw[←d]at hf
   rw[show Builtin.firstCells (Dat.k UInt8) l.length (.slice (some a) l.length cap)=loadCells a (l.length*1) from rfl,Acv]at hf
   refine Eu ?_ _ _ hf
   rintro cs σ' ⟨rfl,rfl⟩
   rw[Aor]
   show wpS P ρ' (Sem.bind _ _) _ _
   rw[Ad]
   refine bytesTo l ByteArray.empty ?_
   have e:ByteArray.empty++bs l=bs l:=by apply ByteArray.ext;rw[ByteArray.data_append];show #[]++_=_;simp
   exact⟨by rw[e],rfl⟩
theorem Auk{n:Nat}(h:n<10^20):(Ev n).length≤20:=(Bdm n h).len 19 h
theorem Yl{p:List UInt8}{i:Nat}(h:i<p.length):∃c,p[i]?=some c:=⟨_,Qq h⟩
theorem Ank{ρ:Ro}{l:List UInt8}(h:l.length<2^60):Val ρ (.string (bs l)) (bs l):=Jk.2 ⟨rfl,by rw[Ea];exact h⟩
theorem Ayj{ρ:Ro}{z:Int}(h0:0≤z)(h1:z≤255):Val ρ (.int .u8 z) (UInt8.ofNat z.toNat):=Uq.2 (by
 congr 1
 rw[UInt8.toNat_ofNat']
 omega)
end
section
open Go
/-- What the results of a function are,at its end. -/
def Akh(P:Program)(ρ:Ro)(σ:Own)(e:Env):ResultVar→Value→Prop
 | .tmp t,v=>e t=v
 | .cell a t,v=>∀Q:Value→Own→Prop,Q v σ→wpS P ρ (do loadVar t (←asAddr (e a))) σ Q
def Agf(P:Program)(ρ:Ro)(σ:Own)(e:Env):List ResultVar→List Value→Prop
 | [],[]=>True
 | r::rs,v::vs=>Akh P ρ σ e r v∧Agf P ρ σ e rs vs
 | _,_=>False
def Adi:List Value→Value
 | [v]=>v
 | vs=>.tuple vs.toArray
theorem Vf{P:Program}{ρ:Ro}{σ:Own}{fn:Func}{rs:List ResultVar}{vs:List Value}{e:Env}{Q:Value→Own→Prop}(hr:fn.results=rs.toArray)(hl:Agf P ρ σ e rs vs)(h:Q (Adi vs) σ):wpS P ρ (Hp fn e) σ Q:=by
 have key:∀(g:ResultVar→Sem Value) (_:∀r v,Akh P ρ σ e r v→∀Q:Value→Own→Prop,Q v σ→wpS P ρ (g r) σ Q) (rs:List ResultVar) (vs:List Value) (acc:Array Value) (Q:Array Value→Own→Prop),Agf P ρ σ e rs vs→Q (acc++vs.toArray) σ→wpS P ρ (List.foldlM (m:=Sem) (fun (bs:Array Value) (a:ResultVar)=>Functor.map bs.push (g a)) acc rs) σ Q:=by
  intro g hg rs
  induction rs with
  | nil =>
   intro vs acc Q hl h
   cases vs with
   | nil=>show Q acc σ;simpa using h
   | cons v vs=>exact hl.elim
  | cons r rs ih =>
   intro vs acc Q hl h
   cases vs with
   | nil=>exact hl.elim
   | cons v vs =>
    obtain⟨c,d⟩:=hl
    rw[Ark]
    show wpS P ρ (((g r).bind fun x=>pure (acc.push x)).bind _) σ Q
    rw[Ad,Ad]
    refine hg r v c _ ?_
    refine ih vs (acc.push v) Q d ?_
    have b:acc.push v++vs.toArray=acc++(v::vs).toArray:=by simp
    rw[b];exact h
 unfold Hp
 rw[hr,Amk,Avo]
 show wpS P ρ (Sem.bind _ _) σ Q
 rw[Ad]
 refine key _ ?_ rs vs #[] _ hl ?_
 ·intro r v hv Q hQ
  cases r with
  | tmp t=>cases hv;exact hQ
  | cell a t=>exact hv Q hQ
 ·rw[Rk]
  show Q _ σ
  cases vs with
  | nil=>exact h
  | cons v vs =>
   cases vs with
   | nil=>exact h
   | cons w vs=>simpa[Adi]using h
theorem Rj{P:Program}{ρ:Ro}{σ:Own}{e:Env}{a off i:Nat}{t t':TypeId}{r:Nat}{c:List Value}{fz:Nat×Nat}{v:Value}(hT:∃d,P.underlying t=some d∧Qv d=false)(ha:e a = .pointer (some ⟨r,off,none⟩))(hi:σ[i]?=some (r,.obj (.cells c.toArray t' fz)))(hc:c[off]?=some v):Akh P ρ σ e (.cell a t) v:=by
 intro Q hQ
 rw[ha]
 show wpS P ρ (loadVar t ⟨r,off,none⟩) σ _
 show wpS P ρ ((isAgg t).bind _) σ _
 rw[Ad]
 refine Hi hT ?_
 exact⟨rfl,rfl,_,v,.inr (lZ3 hi),by simpa[Gy]using hc,hQ⟩
theorem Lt{C:Ctx}{f:FuncId}{fn:Func}{c:Code}{n:Nat}{args:List Value}{ρ:Ro}{σ:Own}{R:Value→Ro→Own→Prop}(rs:List ResultVar)(hf:C.P.funcs[f]?=some fn)(hc:fn.body=some c)(hn:fn.ntmps=n)(ha:Nat.ble args.length n=true)(hr:fn.results=rs.toArray)
  (h:∀Q:Hu,(∀e ρ' σ' ρ'' σ'' vs,Agf C.P ρ' σ' e rs vs→Ghost ρ' σ' ρ'' σ''→R (Adi vs) ρ'' σ''→Q .ret e [] ρ' σ')→(∀e ρ' σ' ρ'' σ'' vs,Agf C.P ρ' σ' e rs vs→Ghost ρ' σ' ρ'' σ''→R (Adi vs) ρ'' σ''→Q .normal e [] ρ' σ')→WpC C ⟨f,.normal,none⟩ n c Q (Pn args) [] ρ σ):CallsH C f args.toArray ρ σ R:=by
 have a:CallsH C f args.toArray ρ σ (fun v ρ' σ'=>∃ρ'' σ'',Ghost ρ' σ' ρ'' σ''∧R v ρ'' σ''):=by
  refine Oy hf hc hn (lZ2 ha) (h _ (fun e ρ' σ' ρ'' σ'' vs hl hg hR=>⟨fun id h=>(by cases h),?_⟩) (fun e ρ' σ' ρ'' σ'' vs hl hg hR=>⟨fun id h=>(by cases h),?_⟩)) <;>
  exact Vf (Q:=fun v σ'=>∃ρ'' σ'',Ghost ρ' σ' ρ'' σ''∧R v ρ'' σ'') hr hl ⟨ρ'',σ'',hg,hR⟩
 intro c' cs
 refine(a c' cs).bind ?_
 rintro _ _ ρ' σ' ⟨v,rfl,rfl,ρ'',σ'',hg,hR⟩
 exact .ghost hg (.stop ⟨v,rfl,rfl,hR⟩)
section
variable{C:Ctx}{e:Env}{ds:List Deferred}{ρ:Ro}{σ:Own}{K:Value→List Deferred→Ro→Own→Prop}{rd:Option Nat}{dd:Option Tmp}
variable{ty:TypeId}{pos:String}{af:Array Edge}{g:Option (Nat×Bool)}{x y:Operand}{v:Value}{t t':TypeId}
end
section
variable{C:Ctx}{e:Env}{ds:List Deferred}{ρ:Ro}{σ:Own}{K:Value→List Deferred→Ro→Own→Prop}{rd:Option Nat}{dd:Option Tmp}
variable{ty:TypeId}{pos:String}{af:Array Edge}{g:Option (Nat×Bool)}{x y:Operand}{v:Value}{t t':TypeId}
theorem Gu{r off:Nat}{c:List Value}{fz:Nat×Nat}(hT:∃d,C.P.underlying t=some d∧Qv d=false)(hx:Af e x = .pointer (some ⟨r,off,none⟩))(hi:(r,Res.obj (.cells c.toArray t' fz))∈σ)(hc:c[off]?=some v)(h:K v ds ρ σ) :
  wpS C.P ρ (execOp (Af e) ⟨dd,.load t x,ty,pos,af,g⟩) σ (NextH C K rd ds ρ):=by
 obtain⟨i,hi⟩:=Aom.1 hi
 exact Dt hT hx hi hc h
end
end
section
open Go
theorem Qh{P:Program}{ρ:Ro}{σ:Own}{e:Env}{a i n':Nat}{t t':TypeId}{r:Nat}{cs:List Value}{fz:Nat×Nat}(hT:∃d,P.underlying t=some d∧Qv d=true)(hz:∃i,P.info? t=some i∧i.size=n')(ha:e a = .pointer (some ⟨r,0,none⟩))(hi:σ[i]?=some (r,.obj (.cells cs.toArray t' fz)))(hn:cs.length=n'):Akh P ρ σ e (.cell a t) (.agg cs.toArray):=by
 intro Q hQ
 rw[ha]
 show wpS P ρ (loadVar t ⟨r,0,none⟩) σ _
 show wpS P ρ ((isAgg t).bind _) σ _
 rw[Ad]
 refine Hi hT ?_
 show wpS P ρ ((sizeOf t).bind fun n=>(loadCells ⟨r,0,none⟩ n).bind _) σ _
 rw[Ad]
 refine Dx hz ?_
 rw[Ad,←hn]
 refine Ff rfl (.inr (lZ3 hi)) cs 0 #[] (fun j w hj=>?_) ?_
 ·simpa[Gy]using hj
 ·have b:(#[]:Array Value)++cs.toArray=cs.toArray:=by simp
  rw[b];exact hQ
theorem Afh{c vs:List Value}(h:vs.length=c.length):over c 0 vs=vs:=by
 rw[Qe _ _ _ (by omega)];simp[h]
section
variable{C:Ctx}{e:Env}{ds:List Deferred}{ρ:Ro}{σ:Own}{K:Value→List Deferred→Ro→Own→Prop}{rd:Option Nat}{dd:Option Tmp}
variable{ty:TypeId}{pos:String}{af:Array Edge}{g:Option (Nat×Bool)}{x y:Operand}{v:Value}{t t':TypeId}
theorem Afr{β:Type}{f:β→Value}{xs:List β}{r i n':Nat}{fz:Nat×Nat}(hT:∃d,C.P.underlying t=some d∧Qv d=true)(hz:∃i,C.P.info? t=some i∧i.size=n')(hx:Af e x = .pointer (some ⟨r,0,none⟩))(hi:σ[i]?=some (r,.obj (.cells (xs.map f).toArray t' fz)))
  (hn:xs.length=n') (h:K (.agg (xs.map f).toArray) ds ρ σ):wpS C.P ρ (execOp (Af e) ⟨dd,.load t x,ty,pos,af,g⟩) σ (NextH C K rd ds ρ) :=
 Xo (cs:=xs.map f) (rs:=[]) hT hz hx hi (by simp) (by simpa using hn) h
theorem Acb{β:Type}{f:β→Value}{xs ys:List β}{r i n':Nat}(hz:∃i,C.P.info? t=some i∧i.size=n')(hx:Af e x = .pointer (some ⟨r,0,none⟩))(hy:Af e y = .agg (ys.map f).toArray)(hs:∀b,single (f b)=true)(hi:σ[i]?=some (r,.obj (.cells (xs.map f).toArray t' (0,0))))
  (hn:ys.length=n') (hl:xs.length=n') (h:K undef ds ρ (σ.set i (r,.obj (.cells (ys.map f).toArray t' (0,0))))):wpS C.P ρ (execOp (Af e) ⟨dd,.store t x y,ty,pos,af,g⟩) σ (NextH C K rd ds ρ) :=
 Li (vs:=ys.map f) (c:=xs.map f) (c':=ys.map f) hz hx hy rfl (by simpa using hn) (by intro w hw;obtain⟨b,_,rfl⟩:=Gb.1 hw;exact hs b) hi (by simp[hn,hl]) (Afh (by simp[hn,hl])) h
end
end
section
open Go
section
variable{P:Program}{ρ:Ro}{e:Env}{ty t t':TypeId}{x y:Operand}
theorem Acf{k k':IntKind}{p z:Int}{d:TypeDesc}(hT:P.underlying t=some d)(hT':P.underlying t'=some (.int k'))(hx:Af e x = .int k p)(hz:k'.wrap p=z):Yld P ρ e (.convert t t' x) ty (.int k' z) :=
 Mt (s:=convert t t' (Af e x)) (fun _ _ _ _=>rfl) fun ρ' σ _=>by
  rw[hx]
  show wpS P ρ' ((underlying t).bind _) σ _
  rw[Ad]
  refine Az hT ?_
  show wpS P ρ' ((underlying t').bind _) σ _
  rw[Ad]
  refine Az hT' ?_
  subst hz
  cases d<;>exact⟨rfl,rfl⟩
theorem Anq{p:Int}(h0:0≤p)(h1:p<256):IntKind.u8.wrap p=p:=by
 show p%_=_
 simp only[IntKind.bits]
 omega
end
end
section
open Go
theorem Vc{α:Type}{l:List α}{i:Nat}{x:α}(h:l[i]?=some x):l.take (i+1)=l.take i++[x]:=by
 rw[Aos,h];rfl
end
section
open Go Go.Conc
section
variable{P:Program}{c:Nat}{fr fr':Frame}{cs cs':List Frame}{ρ:Ro}{σ:Own}{vs:List Value}
theorem Fa(h:∀W,stepG P false (Conc.G fr cs) W = .go (Conc.G fr' cs') W #[])(hk:SendI P c vs fr' cs' ρ σ):SendI P c vs fr cs ρ σ :=
 .step (fun a b c=>a=fr'∧b=cs'∧c=σ) (fun W hs=>⟨fr',cs',W,#[],σ,h W,.refl hs,by simp,rfl,rfl,rfl⟩) (by rintro _ _ _ ⟨rfl,rfl,rfl⟩;exact hk)
end
abbrev Aco:=List Value→Hu
section
variable{P:Program}{c:Nat}{b:FB}{n:Nat}{Q:Aco}{vs:List Value}{e:Env}{ds:List Deferred}{ρ ρ':Ro}{σ σ':Own}
end
end
section
open Go Go.Conc
/-- The goroutine's own first frame,when its call has been taken. -/
def Gf(P:Program):Frame:={(default:Frame) with fn:=P.funcs.size,defers:=[],mode:=.panicking [goexitEntry]}
theorem Abf{P:Program}{f:FuncId}{fn:Func}{args:Array Value}(hf:P.funcs[f]?=some fn)(hn:(fn.name == "runtime.NumGoroutine")=false)(hb:fn.body.isNone=false)(W:World) :
  (invoke (.fn (.func f) #[]) args).runT P W #[]=(.ok (.enter f args) W,#[]):=by
 show (callFunc f (args ++ #[])).runT P W #[]=_
 rw[Sn]
 show (program.bind _:Sem Next).runT P W #[]=_
 rw[Sem.runT_bind']
 show Sem.runT P (match P.funcs[f]? with|none=>_|some fn=>_) W #[]=_
 rw[hf]
 simp only[hn,hb]
 rfl
theorem Abt{P:Program}{c:Nat}{ρ:Ro}{vs:List Value}{f:FuncId}{fn:Func}{args:Array Value}(hf:P.funcs[f]?=some fn)(hn:(fn.name == "runtime.NumGoroutine")=false)(hb:fn.body.isNone=false)
  (h:SendI P c vs (Frame.enter P f args .deferred) [Gf P] ρ []):SendI P c vs (Gg P {target:=.fn (.func f) #[],args:=args}) [] ρ []:=by
 refine Fa (fun W=>?_) h
 have hr:=Abf (args:=args) hf hn hb W
 simp[Conc.G,stepG,Gg,unwind,callDeferred,-Sem.runT_eq,hr,GStep.after,seen,Gf]
/-- What has been deferred: the close. -/
def Lj(c:Nat)(tys:Array TypeId)(ty:TypeId)(cn:Array Bool):Deferred:={target:=.builtin .close tys ty cn,args:=#[.chan (some c)]}
theorem Aeo{P:Program}{c:Nat}{tys:Array TypeId}{ty:TypeId}{cn:Array Bool}{W:World}{s r:Nat}{tm:Bool}(h:W.heap[c]?=some (.chan 0 #[] false s r tm)) :
  (invoke (.builtin .close tys ty cn) #[.chan (some c)]).runT P W #[]=(.ok (.value (.tuple #[])) (W.setChan c 0 #[] true s r tm),#[⟨.obj c,false,true⟩,⟨.obj c,true,true⟩]):=by
 have b:(Builtin.close_ tys ty #[.chan (some c)]).runT P W #[]=(.ok (.tuple #[]) (W.setChan c 0 #[] true s r tm),#[⟨.obj c,false,true⟩,⟨.obj c,true,true⟩]):=by
  show Sem.runT P (Sem.getObj c fun o=>Sem.bind (Sem.pure o) _) W #[]=_
  rw[Sem.runT]
  simp only[h]
  show Sem.runT P (Sem.setObj c (.chan 0 #[] true s r tm) (Sem.pure (Value.tuple #[]))) W _=_
  rw[Sem.runT]
  simp only[h]
  rfl
 show ((Builtin.close_ tys ty #[.chan (some c)]).bind fun v=>Sem.pure (Next.value v)).runT P W #[]=_
 rw[Sem.runT_bind',b]
 rfl
/-- It leaves a function that yields nothing,and closes what was deferred. -/
theorem Aky{P:Program}{c:Nat}{b:FB}{tm:Array Value}{todo:List Item}{fn:Func}{tys:Array TypeId}{ty:TypeId}{cn:Array Bool}(hf:P.funcs[b.fn]?=some fn)(hk:b.kind = .deferred)(hr:fn.results = #[]) :
  Acm P c {Fr b tm [Lj c tys ty cn] todo with mode:=.returning} [Gf P]:=by
 refine⟨rfl,2,Conc.G {Fr b tm [] todo with mode:=.returning} [Gf P],?_,fun W s r tm' hc=>?_⟩
 ·refine .inr ⟨rfl,Conc.G (Gf P) [],fun w=>?_,.inr ⟨rfl,{Conc.G (Gf P) [] with status:=.finished},fun w=>?_,(rfl:GoStatus.finished=GoStatus.finished)⟩⟩
  ·have hrs:(results fn tm).runT P w #[]=(.ok (.tuple #[]) w,#[]):=by
    unfold results;rw[hr,Amk];rfl
   simp[Conc.G,stepG,Fr,unwind,hf,-Sem.runT_eq,hrs,doReturn,hk,GStep.after,Gf,goexitEntry,seen]
  ·have hc:Frame.catches P (Gf P)=false:=by
    unfold Frame.catches Gf
    cases P.funcs[P.funcs.size]?<;>rfl
   simp only[Gf,goexitEntry]at hc
   simp[Conc.G,stepG,Gf,unwind,goexitEntry,hc]
 ·have a:=Aeo (P:=P) (tys:=tys) (ty:=ty) (cn:=cn) hc
  simp[Conc.G,stepG,Fr,unwind,Lj,callDeferred,-Sem.runT_eq,a,GStep.after,seen]
section
variable{P:Program}{c:Nat}{b:FB}{n:Nat}{l₀ rest:List Oper}{Q:List Value→Env→List Deferred→Ro→Own→Prop}{vs:List Value}{e:Env}{ds:List Deferred}{ρ:Ro}{σ:Own}
end
section
variable{C:Ctx}{e:Env}{ds:List Deferred}{ρ:Ro}{σ:Own}{K:Value→List Deferred→Ro→Own→Prop}{dd:Option Tmp}
theorem Xn{ty:TypeId}{pos:String}{af:Array Edge}{g:Option (Nat×Bool)}{x:Operand}{tys:Array TypeId}{c t:Nat}(hxt:x = .tmp t)(hx:Af e x = .chan (some c))(h:K undef (Lj c tys ty #[false]::ds) ρ σ) :
  wpS C.P ρ (execOp (Af e) ⟨dd,.defer ⟨.builtin .close,#[x],tys⟩,ty,pos,af,g⟩) σ (NextH C K none ds ρ):=by
 subst hxt
 have a:execOp (Af e) ⟨dd,.defer ⟨.builtin .close,#[.tmp t],tys⟩,ty,pos,af,g⟩=Sem.pure (Next.defer {target:=.builtin .close tys ty #[false],args:=#[Af e (.tmp t)]}):=by
  show ((resolve (Af e) ⟨.builtin .close,#[.tmp t],tys⟩ ty).bind fun d=>Sem.pure (Next.defer d))=_
  simp[resolve,Sem.bind,pure]
 rw[a,hx]
 exact⟨rfl,h⟩
end
end
section
open Go
/-- More may be read,and these blocks are still owned. -/
def leO(ρ₀:Ro)(A:Own):Ro→Own→Prop:=fun ρ' σ'=>Ro.le ρ₀ ρ'∧∀p∈A,p∈σ'
def Aqb(P:Program)(ρ₀:Ro)(A:Own)(e:Env)(op:Op)(ty:TypeId)(v:Value):Prop :=
 ∀ρ' σ d pos af g,leO ρ₀ A ρ' σ→wpS P ρ' (execOp (Af e) ⟨d,op,ty,pos,af,g⟩) σ (fun nx σ'=>nx = .value v∧σ'=σ)
theorem Yld.o{P:Program}{ρ₀:Ro}{A:Own}{e:Env}{op:Op}{ty:TypeId}{v:Value}(h:Yld P ρ₀ e op ty v):Aqb P ρ₀ A e op ty v:=fun ρ' σ d pos af g hS=>h ρ' σ d pos af g hS.1
theorem Aae{σ:Own}:∀p∈([]:Own),p∈σ:=fun p hp=>by cases hp
theorem Zy{A σ:Own}{x:Nat×Res}(h:∀p∈A,p∈σ):∀p∈x::A,p∈x::σ:=fun p hp=>by
 rcases lZ5.1 hp with rfl|hp
 ·exact Me ..
 ·exact lZ0 _ (h p hp)
theorem Aac{A σ gr:Own}(h:∀p∈A,p∈σ):∀p∈gr++A,p∈gr++σ:=fun p hp=>by
 rcases lZ9.1 hp with hp|hp
 ·exact Ia _ hp
 ·exact Hb _ (h p hp)
theorem Zu{A σ:Own}{x:Nat×Res}(h:∀p∈A,p∈σ):∀p∈A,p∈x::σ:=fun p hp=>lZ0 _ (h p hp)
theorem Aad{A σ gr:Own}(h:∀p∈A,p∈σ):∀p∈A,p∈gr++σ:=fun p hp=>Hb _ (h p hp)
theorem sB{A σ:Own}(h:∀p∈A,p∈σ:=by repeat first|exact Aae|refine Zy ?_|refine Aac ?_|refine Zu ?_|refine Aad ?_):∀p∈A,p∈σ:=h
section
variable{C:Ctx}{b:FB}{n:Nat}{l₀ rest:List Oper}{Q:Env→List Deferred→Ro→Own→Prop}{e:Env}{ds:List Deferred}{ρ ρ₀ ρ₁:Ro}{σ A:Own}{pz:List Nat}{fuel:Nat}
variable{d i:Nat}{op:Op}{ty:TypeId}{pos:String}{af:Array Edge}{g:Option (Nat×Bool)}{v:Value}{li:List Bool}
theorem Wx{V:Es}{id:Nat}{Q:Hu}(A:Own)(pz:List Nat)(hm:C.P.follows .mixedOrders=true)(hs:Nm n l₀=true)(hk:b.kind = .normal)
  (h:El C b l₀.toArray (fun e ds ρ σ=>Q .normal e ds ρ σ) pz (leO ρ A) l₀.length (List.replicate l₀.length false).toArray e ds ρ σ):WpP C V b n (.region id l₀.toArray true) Q e ds ρ σ :=
 Vk pz (leO ρ A) hm (Ih hs) (by rw[hk];simp) (by simpa using h)
theorem Adl(hr:Dl l₀ li=[])(h:Q e ds ρ σ):El C b l₀.toArray Q pz (leO ρ₀ A) fuel li.toArray e ds ρ σ:=Aeb (by rw[Hh];exact hr) h fuel
theorem Tb(li':List Bool)(hli:li.set i true=li')(ht:Py l₀ li pz i=true)(hi:l₀[i]?=some ⟨some d,op,ty,pos,af,g⟩)
  (hS:leO ρ₀ A ρ σ) (hw:Bz l₀.toArray ⟨some d,op,ty,pos,af,g⟩ e=true) (hy:Aqb C.P ρ₀ A e op ty v) (h:El C b l₀.toArray Q pz (leO ρ₀ A) fuel li'.toArray (upd e d v) ds ρ σ) :
  El C b l₀.toArray Q pz (leO ρ₀ A) (fuel+1) li.toArray e ds ρ σ:=by
 obtain⟨a,c,f,j⟩:=Wg ht
 refine Vm (by rw[Gk];exact hi) a c f j (.inl ⟨hw,fun ρ' σ' hS'=>hy ρ' σ' _ _ _ _ hS'⟩) hS ?_
 rw[Mo hli];exact h
theorem Cu  (i:Nat) (li':List Bool) (hi:l₀[i]?=some ⟨some d,op,ty,pos,af,g⟩) (hS:leO ρ₀ A ρ σ) (hw:Bz l₀.toArray ⟨some d,op,ty,pos,af,g⟩ e=true) (hy:Aqb C.P ρ₀ A e op ty v) (h:El C b l₀.toArray Q pz (leO ρ₀ A) fuel li'.toArray (upd e d v) ds ρ σ) (hli:li.set i true=li':=by rfl) (ht:Py l₀ li pz i=true:=by kernel_rfl) :
  El C b l₀.toArray Q pz (leO ρ₀ A) (fuel+1) li.toArray e ds ρ σ:=Tb (i:=i) li' hli ht hi hS hw hy h
theorem Bax{ρ':Ro}{σ':Own}(hg:Ghost ρ σ ρ' σ')(hS:leO ρ₀ A ρ σ→leO ρ₀ A ρ' σ')(h:El C b l₀.toArray Q pz (leO ρ₀ A) (fuel+1) li.toArray e ds ρ' σ'):El C b l₀.toArray Q pz (leO ρ₀ A) (fuel+1) li.toArray e ds ρ σ:=Aar hg hS h
/-- The one that may come up. -/
theorem Bcr(li':List Bool)(hli:li.set i true=li')(hr:Dl l₀ li=[i])(hi:l₀[i]?=some ⟨some d,op,ty,pos,af,g⟩)(hw:Bz l₀.toArray ⟨some d,op,ty,pos,af,g⟩ e=true)
  (h:wpS C.P ρ (execOp (Af e) ⟨some d,op,ty,pos,af,g⟩) σ (NextH C (fun v ds' ρ' σ'=>leO ρ₀ A ρ' σ'∧El C b l₀.toArray Q pz (leO ρ₀ A) fuel li'.toArray (upd e d v) ds' ρ' σ') b.round ds ρ)) :
  El C b l₀.toArray Q pz (leO ρ₀ A) (fuel+1) li.toArray e ds ρ σ:=by
 refine Mz ((Hh _ _).trans hr) (by simp) fun j hj=>?_
 rw[Jd]at hj;subst hj
 unfold OpH
 simp only[Gk,hi,Mo hli]
 rw[if_pos hw]
 exact Eu (fun nx σ' hn=>hn.mono fun v ds ρ σ hh=>⟨fun _=>hh.1,hh.2⟩) _ _ h
theorem Bep  (i:Nat) (li':List Bool) (hi:l₀[i]?=some ⟨some d,op,ty,pos,af,g⟩) (hw:Bz l₀.toArray ⟨some d,op,ty,pos,af,g⟩ e=true) (h:wpS C.P ρ (execOp (Af e) ⟨some d,op,ty,pos,af,g⟩) σ (NextH C (fun v ds' ρ' σ'=>leO ρ₀ A ρ' σ'∧El C b l₀.toArray Q pz (leO ρ₀ A) fuel li'.toArray (upd e d v) ds' ρ' σ') b.round ds ρ)) (hli:li.set i true=li':=by rfl) (hr:Dl l₀ li=[i]:=by kernel_rfl) :
  El C b l₀.toArray Q pz (leO ρ₀ A) (fuel+1) li.toArray e ds ρ σ:=Bcr (i:=i) li' hli hr hi hw h
/-- The one that may come up,and that waits for those that were taken first. -/
theorem Apd(li':List Bool)(hli:li.set i true=li')(hr:Dl l₀ li=[i])(hl:Pg l₀.toArray pz i=true)(hi:l₀[i]?=some ⟨none,op,ty,pos,af,g⟩)(hw:Bz l₀.toArray ⟨none,op,ty,pos,af,g⟩ e=true)
  (h:wpS C.P ρ (execOp (Af e) ⟨none,op,ty,pos,af,g⟩) σ (NextH C (fun _ ds' ρ' σ'=>El C b l₀.toArray Q pz (leO ρ₀ A) fuel li'.toArray e ds' ρ' σ') b.round ds ρ)) :
  El C b l₀.toArray Q pz (leO ρ₀ A) (fuel+1) li.toArray e ds ρ σ:=by
 refine Mz ((Hh _ _).trans hr) (by simp) fun j hj=>?_
 rw[Jd]at hj;subst hj
 unfold OpH
 simp only[Gk,hi,Mo hli]
 rw[if_pos hw]
 exact Eu (fun nx σ' hn=>hn.mono fun v ds ρ σ hh=>⟨fun h=>(by rw[hl]at h;cases h),hh⟩) _ _ h
theorem Sz  (i:Nat) (li':List Bool) (hi:l₀[i]?=some ⟨none,op,ty,pos,af,g⟩) (hw:Bz l₀.toArray ⟨none,op,ty,pos,af,g⟩ e=true) (h:wpS C.P ρ (execOp (Af e) ⟨none,op,ty,pos,af,g⟩) σ (NextH C (fun _ ds' ρ' σ'=>El C b l₀.toArray Q pz (leO ρ₀ A) fuel li'.toArray e ds' ρ' σ') b.round ds ρ)) (hli:li.set i true=li':=by rfl) (hr:Dl l₀ li=[i]:=by kernel_rfl) (hl:Pg l₀.toArray pz i=true:=by kernel_rfl) :
  El C b l₀.toArray Q pz (leO ρ₀ A) (fuel+1) li.toArray e ds ρ σ:=Apd (i:=i) li' hli hr hl hi hw h
theorem Aws(li':List Bool)(hli:li.set i true=li')(hr:Dl l₀ li=[i])(hi:l₀[i]?=some ⟨some d,op,ty,pos,af,g⟩)(hS:leO ρ₀ A ρ σ)(hw:Bz l₀.toArray ⟨some d,op,ty,pos,af,g⟩ e=true)(hy:Aqb C.P ρ₁ A e op ty v)(hS1:leO ρ₁ A ρ σ)
  (h:El C b l₀.toArray Q pz (leO ρ₀ A) fuel li'.toArray (upd e d v) ds ρ σ):El C b l₀.toArray Q pz (leO ρ₀ A) (fuel+1) li.toArray e ds ρ σ :=
 Bcr li' hli hr hi hw (Eu (by rintro nx σ' ⟨rfl,rfl⟩;exact⟨hS,h⟩) _ _ (hy ρ σ _ _ _ _ hS1))
theorem Hs  (i:Nat) (li':List Bool) (hi:l₀[i]?=some ⟨some d,op,ty,pos,af,g⟩) (hS:leO ρ₀ A ρ σ) (hw:Bz l₀.toArray ⟨some d,op,ty,pos,af,g⟩ e=true) (hy:Aqb C.P ρ₁ A e op ty v) (hS1:leO ρ₁ A ρ σ) (h:El C b l₀.toArray Q pz (leO ρ₀ A) fuel li'.toArray (upd e d v) ds ρ σ) (hli:li.set i true=li':=by rfl) (hr:Dl l₀ li=[i]:=by kernel_rfl):El C b l₀.toArray Q pz (leO ρ₀ A) (fuel+1) li.toArray e ds ρ σ:=Aws (i:=i) li' hli hr hi hS hw hy hS1 h
end
section
variable{P:Program}{ρ₀:Ro}{A:Own}{e:Env}{ty t t':TypeId}{x:Operand}{v:Value}
theorem De{r off:Nat}{c:List Value}{fz:Nat×Nat}(hT:∃d,P.underlying t=some d∧Qv d=false)(hx:Af e x = .pointer (some ⟨r,off,none⟩))(hm:(r,Res.obj (.cells c.toArray t' fz))∈A)(hc:c[off]?=some v):Aqb P ρ₀ A e (.load t x) ty v:=fun ρ' σ d pos af g hS=>by
 show wpS P ρ' ((Instr.loadAt t (Af e x)).bind fun v=>Sem.pure (Next.value v)) σ _
 rw[Ad,hx]
 show wpS P ρ' (loadVar t ⟨r,off,none⟩) σ _
 show wpS P ρ' ((isAgg t).bind _) σ _
 rw[Ad]
 refine Hi hT ?_
 exact⟨rfl,rfl,_,v,.inr (hS.2 _ hm),by simpa[Gy]using hc,rfl,rfl⟩
end
section
variable{P:Program}{ρ₀:Ro}{A:Own}{e:Env}{ty t t':TypeId}{x y:Operand}{v w:Value}{xs:List Sale}{i:Nat}{gr:Own}
end
section
variable{C:Ctx}{e:Env}{ds:List Deferred}{ρ:Ro}{σ:Own}{K:Value→List Deferred→Ro→Own→Prop}{rd:Option Nat}{dd:Option Tmp}
variable{ty:TypeId}{pos:String}{af:Array Edge}{g:Option (Nat×Bool)}{x y:Operand}{v w w':Value}{t t':TypeId}{xs:List Sale}{i:Nat}{gr:Own}
end
theorem Ben{C:Ctx}{b:FB}{l₀:List Oper}{Q:Env→List Deferred→Ro→Own→Prop}{e:Env}{ds:List Deferred}{ρ ρ₀:Ro}{σ σ' A:Own}{pz:List Nat}{fuel:Nat}{li:List Bool}(hp:σ.Perm σ')(h:El C b l₀.toArray Q pz (leO ρ₀ A) (fuel+1) li.toArray e ds ρ σ'):El C b l₀.toArray Q pz (leO ρ₀ A) (fuel+1) li.toArray e ds ρ σ :=
 Bax (Ghost.perm hp) (fun hS=>⟨hS.1,fun p hm=>hp.mem_iff.1 (hS.2 p hm)⟩) h
section
variable{P:Program}{ρ₀ ρ:Ro}{A:Own}{e:Env}{ty t t':TypeId}{x y:Operand}{v:Value}
end
end
section
open Go Go.Conc
def Agk:Nat→List (List Bool)
 | 0=>[[]]
 | k+1=>(Agk k).flatMap fun l=>[true::l,false::l]
theorem Yu:∀(l:List Bool),l∈Agk l.length
 | []=>by simp[Agk]
 | b::l=>by
  rw[lZ7,Agk,Avv]
  exact⟨l,Yu l,by cases b<;>simp⟩
def Mh(ops:List Oper)(l:List Bool):Bool:=(List.range ops.length).all fun i=>!l.getD i false||(match ops[i]? with|some o=>o.after.all (fun e=>!Region.binds .any e||l.getD e.on false)|none=>true)
/-- The last one comes when all others have come. -/
def Amp(ops' ops:List Oper):Bool:=(Agk ops'.length).all fun l=>!Mh ops' l||(decide (Dl ops (l++[false])=if Dl ops' l=[] then [ops'.length] else Dl ops' l)&&(decide (Dl ops' l≠[])||decide (Dl ops (l++[true])=[]))&&(Dl ops' l).all fun i=>Mh ops' (l.set i true))
def Adh(l:List Oper):Bool:=l.all fun o=>o.guard.isNone
section
variable{C:Ctx}{b:FB}{n:Nat}{l':List Oper}{oL:Oper}{Q Q':Env→List Deferred→Ro→Own→Prop}{pz:List Nat}{S:Ro→Own→Prop}
theorem Aap{V:Es}(hs:Fu n (l'++[oL]).toArray=true)(hk:b.kind ≠ .early)(hg:Adh l'=true)(hc:Amp l' (l'++[oL])=true)(hQ:∀e ds ρ σ,Q' e ds ρ σ→Md C V b n (l'++[oL]).toArray [l'.length] Q e ds ρ σ) :
  ∀(fuel t:Nat) (l:List Bool) (e:Env) (ds:List Deferred) (ρ:Ro) (σ:Own),l.length=l'.length→Mh l' l=true→El C b l'.toArray Q' pz S fuel l.toArray e ds ρ σ →
  Md C V b n (l'++[oL]).toArray (Region.linearise.go .any (l'++[oL]).toArray (fuel+1) t (l++[false]).toArray []) Q e ds ρ σ:=by
 have f:∀l:List Bool,l.length=l'.length→Mh l' l=true→Dl (l'++[oL]) (l++[false])=(if Dl l' l=[] then [l'.length] else Dl l' l)∧(Dl l' l=[]→Dl (l'++[oL]) (l++[true])=[])∧∀i∈Dl l' l,Mh l' (l.set i true)=true:=fun l hl hcl=>by
  have a:=Gn.1 hc l (hl ▸ Yu l)
  rw[hcl]at a
  simp only[Bool.not_true,Aox,Gm,Bool.or_eq_true,decide_eq_true_eq,Gn]at a
  exact⟨a.1.1,fun h=>a.1.2.resolve_left fun h'=>h' h,a.2⟩
 have rd:∀(l:List Oper) (li:List Bool),Region.ready .any l.toArray li.toArray=Dl l li:=Hh
 have fin:∀(fuel t:Nat) (l:List Bool) (e:Env) (ds:List Deferred) (ρ:Ro) (σ:Own),l.length=l'.length→Mh l' l=true→Dl l' l=[]→Q' e ds ρ σ →
   Md C V b n (l'++[oL]).toArray (Region.linearise.go .any (l'++[oL]).toArray (fuel+1) t (l++[false]).toArray []) Q e ds ρ σ:=by
  intro fuel t l e ds ρ σ hl hcl hr hq
  obtain⟨a,d,_⟩:=f l hl hcl
  rw[if_pos hr]at a
  have g:Region.linearise.go .any (l'++[oL]).toArray (fuel+1) t (l++[false]).toArray []=[l'.length]:=by
   simp only[Region.linearise.go]
   change (match (Region.ready .any (l'++[oL]).toArray (l++[false]).toArray)[t%(Region.ready .any (l'++[oL]).toArray (l++[false]).toArray).length]? with
    | some i=>Region.linearise.go .any (l'++[oL]).toArray fuel (t/(Region.ready .any (l'++[oL]).toArray (l++[false]).toArray).length) ((l++[false]).toArray.setIfInBounds i true) [i]
    | none=>[].reverse)=_
   rw[rd,a]
   simp only[Nk,Nat.mod_one,Arg]
   rw[linearise_go_acc]
   have j:(l++[false]).toArray.setIfInBounds l'.length true=(l++[true]).toArray:=by
    rw[←hl];simp
   rw[j]
   cases fuel with
   | zero=>simp[Region.linearise.go]
   | succ fuel =>
    simp only[Region.linearise.go]
    have m:Region.ready .any (l'++[oL]).toArray (l++[true]).toArray=[]:=(rd _ _).trans (d hr)
    change [l'.length].reverse++(match (Region.ready .any (l'++[oL]).toArray (l++[true]).toArray)[(t/1)%(Region.ready .any (l'++[oL]).toArray (l++[true]).toArray).length]? with
     | some i=>Region.linearise.go .any (l'++[oL]).toArray fuel ((t/1)/(Region.ready .any (l'++[oL]).toArray (l++[true]).toArray).length) ((l++[true]).toArray.setIfInBounds i true) [i]
     | none=>[].reverse)=_
    rw[m];rfl
  rw[g];exact hQ _ _ _ _ hq
 intro fuel
 induction fuel with
 | zero =>
  intro t l e ds ρ σ hl hcl h
  exact fin 0 t l e ds ρ σ hl hcl ((rd _ _).symm.trans h.1) h.2
 | succ fuel ih =>
  intro t l e ds ρ σ hl hcl h
  rcases h with h|⟨ρ₁,σ₁,hgh,_,h₀,h₁⟩
  ·exact fun tm k cs ht=>Rc h
  refine fun tm k cs ht=>.ghost hgh ?_
  revert tm k cs
  change Md C V b n (l'++[oL]).toArray (Region.linearise.go .any (l'++[oL]).toArray (fuel+1+1) t (l++[false]).toArray []) Q e ds ρ₁ σ₁
  by_cases hr:Dl l' l=[]
  ·exact fin (fuel+1) t l e ds ρ₁ σ₁ hl hcl hr (h₀ ((rd _ _).trans hr))
  obtain⟨a,d,u⟩:=f l hl hcl
  rw[if_neg hr]at a
  rw[Region.linearise.go]
  change Md C V b n (l'++[oL]).toArray (match (Region.ready .any (l'++[oL]).toArray (l++[false]).toArray)[t%(Region.ready .any (l'++[oL]).toArray (l++[false]).toArray).length]? with
   | some i=>Region.linearise.go .any (l'++[oL]).toArray (fuel+1) (t/(Region.ready .any (l'++[oL]).toArray (l++[false]).toArray).length) ((l++[false]).toArray.setIfInBounds i true) [i]
   | none=>[].reverse) Q e ds ρ₁ σ₁
  rw[rd,a]
  have w:0<(Dl l' l).length:=Aop.2 hr
  have hlt:t%(Dl l' l).length<(Dl l' l).length:=Nat.mod_lt _ w
  rw[Qq hlt]
  simp only[]
  have hi:(Dl l' l)[t%(Dl l' l).length]∈Dl l' l:=Aot hlt
  generalize (Dl l' l)[t%(Dl l' l).length]=i at hi
  have hi':i<l'.length:=by
   have:=(Lp.1 (show i∈(List.range l'.length).filter _ from hi)).1
   simpa using this
  rw[linearise_go_acc,List.reverse_singleton,Ari]
  have c:=h₁ i (by rw[rd];exact hi)
  have p:(l++[false]).toArray.setIfInBounds i true=(l.set i true++[false]).toArray:=by
   simp[List.set_append_left _ _ (hl ▸ hi')]
  have q:l.toArray.setIfInBounds i true=(l.set i true).toArray:=by simp
  rw[p]
  refine Uc hs hk ?_
  have ho:l'[i]?=some l'[i]:=Qq hi'
  have x:(l'++[oL])[i]?=some l'[i]:=by rw[Abd hi',ho]
  have hgn:(l'[i]).guard=none:=by
   have:=Gn.1 hg _ (Aot hi')
   simpa using this
  unfold OpH at c ⊢
  simp only[Gk,ho,x]at c ⊢
  have y:Bz l'.toArray l'[i] e=true:=by unfold Bz;rw[hgn]
  have z:Bz (l'++[oL]).toArray l'[i] e=true:=by unfold Bz;rw[hgn]
  rw[if_pos y]at c
  rw[if_pos z]
  refine Eu (fun nx σ' hn=>hn.mono fun v ds ρ σ hh=>?_) _ _ c
  refine ih _ _ _ _ _ _ (by simpa using hl) (u i hi) ?_
  rw[←q];exact hh.2
theorem Ge{V:Es}{l₀:List Oper}{id:Nat}{Q:Hu}{e:Env}{ds:List Deferred}{ρ:Ro}{σ:Own}(hs:Nm n l₀=true)(hk:b.kind ≠ .early)(h:Bq C V b n l₀ l₀ (fun e ds ρ σ=>Q .normal e ds ρ σ) e ds ρ σ):WpP C V b n (.region id l₀.toArray false) Q e ds ρ σ:=by
 refine Wp (Ih hs) hk ?_
 have:=h [] rfl (Ih hs) hk
 simpa[Awb]using this
end
end
section
open Go Go.WideShapes Go.ChangeShapes Go.RowKit Go.Conc
/-- What the first goroutine may rely on besides: what it owns is newer than the call's world;what it has frozen is its own again while nobody else is there. -/
def Acz(P:Program)(W0:World):Frame→List Frame→Ro→Own→Cy→Prop:=fun fr cs ρ σ K =>
 Ade P fr cs ρ σ K ∨
 (∃(gr:Own) (ρ':Ro),NoRecv σ∧(∀p∈gr,W0.heap.size≤p.1∧∃o,p.2=Res.obj o∧ρ p.1=some o)∧(keys gr).Nodup∧Ro.le ρ' ρ∧(∀p∈gr,ρ' p.1=none)∧K fr cs ρ' (gr++σ)) ∨
 ((∀b∈keys σ,W0.heap.size≤b)→K fr cs ρ σ)
section
variable{P:Program}{Pst:Value→World→Prop}{W0:World}{fr:Frame}{cs:List Frame}{ρ:Ro}{σ:Own}
theorem Aqy{gr:Own}{ρ':Ro}(hn:NoRecv σ)(hg:∀p∈gr,W0.heap.size≤p.1∧∃o,p.2=Res.obj o∧ρ p.1=some o)(hnd:(keys gr).Nodup)(hle:Ro.le ρ' ρ)(hno:∀p∈gr,ρ' p.1=none)
  (hK:Fine P W0 Pst fr cs ρ' (gr++σ)):Fine P W0 Pst fr cs ρ σ:=by
 refine⟨fun gs w sl t q h=>hK.A gs w sl t q {h with sat:=?_,nr:=?_,newk:=?_},fun c vs j Am Aw Sh fw cw ρw σw wp gs w sl t q _ h=>absurd h.hc (hn.recv _ _),fun c j Am Aw Sh pc gs w sl t q h=>absurd h.hc (hn.recv _ _),fun c k l B r d f gs w sl t q hne _ h=>(h.calm hne hn).elim⟩
 ·have hk:keys (gr++σ)=keys gr++keys σ:=Ga
  refine⟨fun k ok hk=>h.sat.ro k ok (hle k ok hk),fun p hp=>?_,?_,fun k hk'=>?_⟩
  ·rcases lZ9.1 hp with hp|hp
   ·obtain⟨_,o,ho,hr⟩:=hg p hp
    rw[ho];exact h.sat.ro _ _ hr
   ·exact h.sat.own p hp
  ·rw[hk,Wf]
   refine⟨hnd,h.sat.nd,fun a ha b hb e=>?_⟩
   subst e
   obtain⟨p,hp,rfl⟩:=Gb.1 ha
   obtain⟨_,o,_,hr⟩:=hg p hp
   have:=h.sat.dj _ hb
   rw[hr]at this;cases this
  ·rw[hk,lZ9]at hk'
   rcases hk' with hk'|hk'
   ·obtain⟨p,hp,rfl⟩:=Gb.1 hk';exact hno p hp
   ·cases hr:ρ' k with
    | none=>rfl
    | some o=>have:=h.sat.dj k hk';rw[hle k o hr]at this;cases this
 ·exact hn.of fun p hp=>(lZ9.1 hp).elim (fun hm=>by obtain⟨_,o,ho,_⟩:=hg _ hm;exact .inr (.inl ⟨o,ho⟩)) .inl
 ·intro b hb
  rw[show keys (gr++σ)=keys gr++keys σ from Ga,lZ9]at hb
  rcases hb with hb|hb
  ·obtain⟨p,hp,rfl⟩:=Gb.1 hb;exact(hg p hp).1
  ·exact h.newk b hb
theorem Als(hK:(∀b∈keys σ,W0.heap.size≤b)→Fine P W0 Pst fr cs ρ σ):Fine P W0 Pst fr cs ρ σ :=
 ⟨fun gs w sl t q h=>(hK h.newk).A gs w sl t q h,fun c vs j Am Aw Sh fw cw ρw σw wp gs w sl t q hW h=>(hK h.newk).B c vs j Am Aw Sh fw cw ρw σw wp gs w sl t q hW h,fun c j Am Aw Sh pc gs w sl t q h=>(hK h.newk).C c j Am Aw Sh pc gs w sl t q h,fun c k l B r a d gs w sl t q e f h=>(hK h.newk).N c k l B r a d gs w sl t q e f h⟩
theorem Aax(h:GoesH ⟨P,true,Acz P W0⟩ (Agg P W0 Pst) fr cs ρ σ):Fine P W0 Pst fr cs ρ σ:=by
 induction h with
 | stop h=>exact Aex h
 | ghost hg _ ih=>exact ih.ghost hg
 | step K h1 _ ih=>exact Aew h1 ih
 | @ext fr cs ρ σ K h1 _ ih =>
  rcases h1 with h1|⟨gr,ρ',h1,h2,h3,h4,h5,h6⟩|h1
  ·exact Aus h1 ih
  ·exact Aqy h1 h2 h3 h4 h5 (ih _ _ _ _ h6)
  ·exact Als fun hk=>ih _ _ _ _ (h1 hk)
theorem Agq{F:Frame}(h:GoesH ⟨P,true,Acz P W0⟩ (Agg P W0 Pst) F [] ρ [])(hro:∀b o,ρ b=some o→W0.heap[b]?=some o∧o.isChan=false) :
  ∃M last o w' t',runNT P (M+1) (solo (G F []) W0) #[]=(.ended o w',t')∧runN P M (solo (G F []) W0) = .next last∧step P last = .ended o w'∧Go.Conc.Good P Pst last o w' t':=by
 have hw:My P Pst (crowd #[G F []] W0 none) #[]:=(Aax h).A #[G F []] W0 none #[] (fun _=>0) {
  g0:=⟨G F [],rfl,Is.of _ _⟩
  oth:=fun k y hk hy=>by
   match k with
   | 0=>exact absurd rfl hk
   | k+1=>simp at hy
  sat:=⟨hro,fun p hp=>absurd hp Ow,Acs,fun b hb=>absurd hb Ow⟩
  nr:=.nil
  newk:=fun b hb=>by cases hb
  below:=Below.refl _ _
  tr:=TA.nil }
 exact hw
theorem Ags{f:FuncId}{r:Nat}{args:List Value}{R:Value→Ro→Own→Prop}(h:Agd ⟨P,true,Acz P W0⟩ f r args ρ [] R)(hi:P.inits.idxOf? f=none)
  (hR:∀v ρ' σ',R v ρ' σ'→σ'=[]∧∀W,Below W0.heap.size W0 W→Pst v W):GoesH ⟨P,true,Acz P W0⟩ (Agg P W0 Pst) (Frame.enter P f args.toArray .normal) [] ρ []:=by
 obtain⟨fn,c,hf,hc,hr,ha,hw⟩:=h
 have hf:P.funcs[f]?=some fn:=hf
 have d:Frame.enter P f args.toArray .normal=Fr ⟨f,.normal,none⟩ (args.toArray++Array.replicate (fn.ntmps-args.toArray.size) undef) [] [.code c]:=by
  simp[Frame.enter,hf,hc,Fr]
 rw[d]
 refine((hw (fun ex e ds ρ σ=>(∀id,ex ≠ .exit id)∧ds=[]∧R (e r) ρ σ) (fun e ρ' σ' h=>⟨fun id h=>(by cases h),rfl,h⟩) (fun e ρ' σ' h=>⟨fun id h=>(by cases h),rfl,h⟩)).stops _ [] [] (Tn ha)).bind ?_
 rintro _ _ ρ' σ' ⟨rfl,ex,tm',e',ds',a,g,⟨i,rfl,j⟩,b,rfl⟩
 obtain⟨rfl,hp⟩:=hR _ _ _ j
 have fin:∀a,GoesH ⟨P,true,Acz P W0⟩ (Agg P W0 Pst) {Fr ⟨f,.normal,none⟩ tm' [] a with mode:=.returning} [] ρ' []:=fun a=>by
  refine .stop ⟨.nil,fun W hs hb _=>⟨e' r,W,#[],?_,fun ev hv=>by simp at hv,hp W hb⟩⟩
  have hrs:(results fn tm').runT P W #[]=(.ok (e' r) W,#[]):=by
   rw[←g.2 r]
   unfold results;rw[hr,Amk];rfl
  simp[Conc.G,stepG,Fr,unwind,hf,-Sem.runT_eq,hrs,doReturn,hi,GStep.after,seen]
 cases ex with
 | normal =>
  cases b
  exact Eh (fr':={Fr ⟨f,.normal,none⟩ tm' [] [] with mode:=.returning}) (cs':=[]) (fun W=>by simp[Conc.G,stepG,stepG.exec,Fr]) (fin _)
 | exit id=>exact absurd rfl (i id)
 | ret =>
  obtain⟨pre,rfl⟩:=b
  exact Eh (fr':={Fr ⟨f,.normal,none⟩ tm' [] (.code .ret::(pre++[])) with mode:=.returning}) (cs':=[]) (fun W=>by simp[Conc.G,stepG,stepG.exec,Fr]) (fin _)
end
theorem GoesH.ctx{P:Program}{mn:Bool}{X Y:Frame→List Frame→Ro→Own→Cy→Prop}(hX:∀fr cs ρ σ K,X fr cs ρ σ K→Y fr cs ρ σ K){S:Cy}{fr:Frame}{cs:List Frame}{ρ:Ro}{σ:Own}(h:GoesH ⟨P,mn,X⟩ S fr cs ρ σ):GoesH ⟨P,mn,Y⟩ S fr cs ρ σ:=by
 induction h with
 | stop h=>exact .stop h
 | ghost hg _ ih=>exact .ghost hg ih
 | step K h1 _ ih=>exact .step K h1 ih
 | ext K h1 _ ih=>exact .ext K (hX _ _ _ _ _ h1) ih
noncomputable abbrev CY(W0:World):Ctx:=CX true (Acz Tryz.prog W0)
theorem Sf{W0:World}{f:FuncId}{args:Array Value}{ρ:Ro}{σ:Own}{R:Value→Ro→Own→Prop}(h:CallsH (CX true (Ade Tryz.prog)) f args ρ σ R):CallsH (CY W0) f args ρ σ R :=
 fun c cs=>(h c cs).ctx fun _ _ _ _ _ h=>.inl h
section
variable{W0:World}{b:FB}{n:Nat}{e:Env}{ds:List Deferred}{ρ:Ro}{σ:Own}
end
end
section
open Go
theorem Ahe{P:Program}{fr:Frame}{cs:List Frame}{s:Sem Next}{W W':World}{v:Value}{es:Array Event}(hk:fr.kind ≠ .early)(hr:s.runT P W #[]=(.ok (.value v) W',es)) :
  stepG.apply P true fr cs none s W = .go (Conc.G (fr.finish v) cs) W' (seen P fr.fn es):=by
 have hk':(fr.kind==CallKind.early)=false:=by cases h:fr.kind<;>simp_all<;>rfl
 simp[stepG.apply,-Sem.runT_eq,hr,hk',GStep.after,Conc.G]
section
variable{C:Ctx}{b:FB}{n:Nat}{l₀ rest:List Oper}{Q:Env→List Deferred→Ro→Own→Prop}{e:Env}{ds:List Deferred}{ρ:Ro}{σ:Own}
end
section
variable{P:Program}{ρ:Ro}{e:Env}{ty t t':TypeId}{x:Operand}{kt et:TypeId}{v:Value}
end
end
section
open Go
section
variable{P:Program}{ρ:Ro}{e:Env}{ty t t':TypeId}{x y:Operand}{v:Value}
theorem Ala{el:TypeId}{a:Option Addr}(hT:P.underlying t=some (.pointer el))(hx:Af e x = .pointer a)(hy:Af e y = .pointer none):Yld P ρ e (.binOp .eql t x y t') ty (.bool a.isNone) :=
 Mt (s:=(do eqGuard .eql t x y (Af e x) (Af e y);binOp .eql t (Af e x) (Af e y))) (fun _ _ _ _=>rfl) fun ρ' σ _=>by
  rw[hx,hy,show eqGuard .eql t x y (.pointer a) (.pointer none)=pure () from rfl]
  show wpS P ρ' ((Op.equal t (.pointer a) (.pointer none)).bind _) σ _
  rw[Ad]
  show wpS P ρ' ((underlying t).bind _) σ _
  rw[Ad]
  refine Az hT ?_
  cases a<;>exact⟨rfl,rfl⟩
theorem Bcc{el:TypeId}{a:Addr}{n:Nat}(hT:P.underlying t=some (.pointer el))(hz:∃i,P.info? el=some i∧i.size=n)(hn:n≠0)(hx:Af e x = .pointer (some a))(hy:Af e y = .pointer (some a)):Yld P ρ e (.binOp .neq t x y t') ty (.bool false) :=
 Mt (s:=(do eqGuard .neq t x y (Af e x) (Af e y);binOp .neq t (Af e x) (Af e y))) (fun _ _ _ _=>rfl) fun ρ' σ _=>by
  rw[hx,hy,show eqGuard .neq t x y (.pointer (some a)) (.pointer (some a))=pure () from rfl]
  show wpS P ρ' ((Op.equal t (.pointer (some a)) (.pointer (some a))).bind _) σ _
  rw[Ad]
  show wpS P ρ' ((underlying t).bind _) σ _
  rw[Ad]
  refine Az hT ?_
  show wpS P ρ' ((sizeOf el).bind _) σ _
  rw[Ad]
  refine Dx hz ?_
  simp only[ne_eq,hn,not_false_eq_true,if_true]
  show wpS P ρ' (sameAddr a a) σ _
  unfold sameAddr
  simp only[beq_self_eq_true,if_true]
  exact⟨rfl,rfl⟩
end
section
variable{C:Ctx}{e:Env}{ds:List Deferred}{ρ:Ro}{σ:Own}{K:Value→List Deferred→Ro→Own→Prop}{rd:Option Nat}{dd:Option Tmp}
variable{ty:TypeId}{pos:String}{af:Array Edge}{g:Option (Nat×Bool)}{x:Operand}{t t' t2:TypeId}
theorem Aan{P:Program}{a:Addr}{c:Array Value}{t1:TypeId}{fz:Nat×Nat}(h:Has ρ σ a.block (.cells c t1 fz)){Q:Addr→Own→Prop}(hq:Q a σ):wpS P ρ (Conv.seenAt a) σ Q:=by
 unfold Conv.seenAt viewAt
 show wpS P ρ (((shape a.block).bind _).bind _) σ Q
 rw[Ad,Ad]
 refine⟨_,h,?_⟩
 exact hq
/-- A pointer to a variable that is owned,without its type. -/
theorem Ate{r n i:Nat}{c:List Value}{fz:Nat×Nat}{el:TypeId}(hT:C.P.underlying t=some (.pointer el))(hT':C.P.underlying t'=some .unsafePointer)(hz:∃i,C.P.info? el=some i∧i.size=n)(hn:n≠0)(hx:Af e x = .pointer (some ⟨r,0,none⟩))(hi:σ[i]?=some (r,.obj (.cells c.toArray t2 fz)))(hc:0<c.length)
  (h:K (.pointer (some ⟨r,0,none⟩)) ds ρ σ):wpS C.P ρ (execOp (Af e) ⟨dd,.convert t t' x,ty,pos,af,g⟩) σ (NextH C K rd ds ρ):=by
 have hh:Has ρ σ r (.cells c.toArray t2 fz):=.inr (lZ3 hi)
 show wpS C.P ρ ((convert t t' (Af e x)).bind _) σ _
 refine Gd ?_
 rw[hx]
 show wpS C.P ρ ((underlying t).bind _) σ _
 rw[Ad]
 refine Az hT ?_
 show wpS C.P ρ ((underlying t').bind _) σ _
 rw[Ad]
 refine Az hT' ?_
 show wpS C.P ρ (Conv.unsafePointer t t' (.pointer (some ⟨r,0,none⟩))) σ _
 unfold Conv.unsafePointer
 show wpS C.P ρ ((underlying t).bind _) σ _
 rw[Ad]
 refine Az hT ?_
 show wpS C.P ρ ((underlying t').bind _) σ _
 rw[Ad]
 refine Az hT' ?_
 simp only
 show wpS C.P ρ ((Conv.seenAt ⟨r,0,none⟩).bind _) σ _
 rw[Ad]
 refine Aan hh ?_
 show wpS C.P ρ ((cellsIn r).bind _) σ _
 rw[Ad]
 unfold cellsIn
 show wpS C.P ρ ((shape r).bind _) σ _
 rw[Ad]
 refine⟨_,hh,?_⟩
 simp only[Xk]
 show wpS C.P ρ ((sizeOf el).bind _) σ _
 rw[Ad]
 refine Dx hz ?_
 have a:¬(0:Nat)≥c.toArray.size:=by rw[show c.toArray.size=c.length by simp];omega
 simp only[a,hn,decide_false,Bool.false_and,Bool.or_self,if_false,Zc,or_self]
 exact h
/-- And back again. -/
theorem Bbz{r n i:Nat}{c:List Value}{fz:Nat×Nat}{el:TypeId}(hT:C.P.underlying t=some .unsafePointer)(hT':C.P.underlying t'=some (.pointer el))(hz:∃i,C.P.info? el=some i∧i.size=n)(hn:n≠0)(hx:Af e x = .pointer (some ⟨r,0,none⟩))(hi:σ[i]?=some (r,.obj (.cells c.toArray t2 fz)))(hl:liesAt C.P C.P.depth t2 (c.length/C.P.cellsOf t2) 0 el 1=true)
  (h:K (.pointer (some ⟨r,0,none⟩)) ds ρ σ):wpS C.P ρ (execOp (Af e) ⟨dd,.convert t t' x,ty,pos,af,g⟩) σ (NextH C K rd ds ρ):=by
 have hh:Has ρ σ r (.cells c.toArray t2 fz):=.inr (lZ3 hi)
 show wpS C.P ρ ((convert t t' (Af e x)).bind _) σ _
 refine Gd ?_
 rw[hx]
 show wpS C.P ρ ((underlying t).bind _) σ _
 rw[Ad]
 refine Az hT ?_
 show wpS C.P ρ ((underlying t').bind _) σ _
 rw[Ad]
 refine Az hT' ?_
 show wpS C.P ρ (Conv.unsafePointer t t' (.pointer (some ⟨r,0,none⟩))) σ _
 unfold Conv.unsafePointer
 show wpS C.P ρ ((underlying t).bind _) σ _
 rw[Ad]
 refine Az hT ?_
 show wpS C.P ρ ((underlying t').bind _) σ _
 rw[Ad]
 refine Az hT' ?_
 simp only
 show wpS C.P ρ ((Conv.seenAt ⟨r,0,none⟩).bind _) σ _
 rw[Ad]
 refine Aan hh ?_
 show wpS C.P ρ ((sizeOf el).bind _) σ _
 rw[Ad]
 refine Dx hz ?_
 show wpS C.P ρ ((variablesAt ⟨r,0,none⟩ el 1).bind _) σ _
 rw[Ad]
 unfold variablesAt
 show wpS C.P ρ (program.bind _) σ _
 rw[Ad]
 show wpS C.P ρ ((shape r).bind _) σ _
 rw[Ad]
 refine⟨_,hh,?_⟩
 simp only[Xk]
 rw[show c.toArray.size=c.length by simp]
 show wpS C.P ρ (if (decide (n=0)||liesAt C.P C.P.depth t2 (c.length/C.P.cellsOf t2) 0 el 1)=true then _ else _) σ _
 rw[hl]
 simp only[Bool.or_true,if_true]
 exact h
end
section
variable{C:Ctx}{b:FB}{n:Nat}{l₀ rest:List Oper}{Q:Env→List Deferred→Ro→Own→Prop}{e:Env}{ds:List Deferred}{ρ:Ro}{σ:Own}
/-- A call of a function without a body,one step of a region of one order. -/
theorem Bgr{V:Es}{d:Nat}{f:FuncId}{fn:Func}{xs:Array Operand}{vs:Array Value}{G:Array Value→Sem Value}{R:Value→Own→Prop}{tys:Array TypeId}{ty:TypeId}{pos:String}{af:Array Edge}{g:Option (Nat×Bool)}
  (hw:Bz l₀.toArray ⟨some d,.call ⟨.value (.func f),xs,tys⟩,ty,pos,af,g⟩ e=true) (hf:C.P.funcs[f]?=some fn) (hn:(fn.name == "runtime.NumGoroutine")=false) (hb:fn.body.isNone=true)
  (hx0:Extern.findNext fn=none) (he:Extern.find fn=some G) (hx:xs.map (Af e)=vs) (hG:wpS C.P ρ (G vs) σ R)
  (h:∀v σ',R v σ'→Bq C V b n l₀ rest Q (upd e d v) ds ρ σ') :
  Bq C V b n l₀ (⟨some d,.call ⟨.value (.func f),xs,tys⟩,ty,pos,af,g⟩::rest) Q e ds ρ σ:=by
 intro pre c hs hk tm k cs ht
 have ho:l₀.toArray[pre.length]?=some ⟨some d,.call ⟨.value (.func f),xs,tys⟩,ty,pos,af,g⟩:=by subst c;simp
 rw[lZ7,Um]
 have hev:=ht.eval b ds (.inRegion l₀.toArray (pre.length::List.range' (pre.length+1) rest.length)::k)
 have w:∀W:World,(execOp (Af e) ⟨some d,.call ⟨.value (.func f),xs,tys⟩,ty,pos,af,g⟩).runT C.P W #[]=((G vs).bind fun v=>Sem.pure (Next.value v)).runT C.P W #[⟨.mark (.extern f),false,true⟩]:=by
  intro W
  have j:execOp (Af e) ⟨some d,.call ⟨.value (.func f),xs,tys⟩,ty,pos,af,g⟩=callFunc f vs:=by
   show callFunc f ((#[]++xs.map (Af e)) ++ #[])=_
   rw[Sn,Rk,hx]
  rw[j]
  unfold callFunc
  show ((program).bind _).runT C.P W #[]=_
  rw[Sem.runT_bind']
  simp only[program,Sem.runT,hf,hn,hb]
  simp only[hx0,he]
  rfl
 refine .step (fun fr' cs' σ'=>∃v,R v σ'∧fr'=(Fr b tm ds (.inRegion l₀.toArray (pre.length::List.range' (pre.length+1) rest.length)::k)).finish v∧cs'=cs) (fun W x=>?_) ?_
 ·have hwp:wpS C.P ρ ((G vs).bind fun v=>Sem.pure (Next.value v)) σ (fun nx σ'=>∃v,R v σ'∧nx = .value v):=by
   rw[Ad]
   exact Eu (fun v σ' hv=>⟨v,hv,rfl⟩) _ _ hG
  obtain⟨nx,σ',W',es,a,m,p,q⟩:=Rr _ σ _ W #[⟨.mark (.extern f),false,true⟩] hwp x
  obtain⟨v,hv,rfl⟩:=m
  rw[←w W]at a
  have t:=Ahe (fr:=Fr b tm ds (.inRegion l₀.toArray (pre.length::List.range' (pre.length+1) rest.length)::k)) (cs:=cs) (by exact hk) a
  have u:∀ev∈seen C.P b.fn es,Rz ρ σ' ev:=fun ev he'=>((q ev (Lh he').1).resolve_left fun hc=>Qz he' f (by simp at hc;rw[hc])).resolve_right fun⟨f,hf⟩=>(Lh he').2 f hf
  refine⟨_,cs,W',seen C.P b.fn es,_,?_,p,u,v,hv,rfl,rfl⟩
  have hst:=Np (C:=C) (b:=b) (ds:=ds) (tm:=tm) (k:=k) (cs:=cs) (rest:=List.range' (pre.length+1) rest.length) ho (by rw[Ij hs ht];exact hw) (fun c' h'=>by cases h') W
  refine hst.trans ?_
  rw[hev]
  exact t
 ·rintro _ _ σ' ⟨v,hv,rfl,rfl⟩
  rw[Ju ho]
  have i:=h v σ' hv (pre++[⟨some d,.call ⟨.value (.func f),xs,tys⟩,ty,pos,af,g⟩]) (by rw[c];simp) hs hk
  rw[lZ1,Nk]at i
  exact i _ k _ (Jj hs ht ho _)
/-- Its value hangs on the arguments alone. -/
theorem Ams{V:Es}{d:Nat}{f:FuncId}{fn:Func}{xs:Array Operand}{vs:Array Value}{G:Array Value→Sem Value}{v:Value}{tys:Array TypeId}{ty:TypeId}{pos:String}{af:Array Edge}{g:Option (Nat×Bool)}
  (hw:Bz l₀.toArray ⟨some d,.call ⟨.value (.func f),xs,tys⟩,ty,pos,af,g⟩ e=true) (hf:C.P.funcs[f]?=some fn) (hn:(fn.name == "runtime.NumGoroutine")=false) (hb:fn.body.isNone=true)
  (hx0:Extern.findNext fn=none) (he:Extern.find fn=some G) (hx:xs.map (Af e)=vs) (hG:wpS C.P ρ (G vs) σ (fun w σ'=>w=v∧σ'=σ))
  (h:Bq C V b n l₀ rest Q (upd e d v) ds ρ σ) :
  Bq C V b n l₀ (⟨some d,.call ⟨.value (.func f),xs,tys⟩,ty,pos,af,g⟩::rest) Q e ds ρ σ :=
 Bgr hw hf hn hb hx0 he hx hG fun _ _ ⟨a,c⟩=>by subst a c;exact h
end
theorem Bgt{e:Env}{x:Operand}{v:Value}(h:Af e x=v):(#[x]:Array Operand).map (Af e) = #[v]:=by simp[h]
theorem Bco{e:Env}{x y:Operand}{v w:Value}(h:Af e x=v)(h':Af e y=w):(#[x,y]:Array Operand).map (Af e) = #[v,w]:=by simp[h,h']
theorem Aur{P:Program}{ρ:Ro}{σ:Own}{v:Value}:wpS P ρ (Extern.AbiNoEscape.same #[v]) σ (fun w σ'=>w=v∧σ'=σ):=⟨rfl,rfl⟩
end
section
open Go
section
variable{C:Ctx}{e:Env}{ds:List Deferred}{ρ:Ro}{σ:Own}{K:Value→List Deferred→Ro→Own→Prop}{rd:Option Nat}{dd:Option Tmp}
variable{ty:TypeId}{pos:String}{af:Array Edge}{g:Option (Nat×Bool)}{x y:Operand}{v:Value}{t t':TypeId}
theorem Vw{xs ys:List UInt8}{gr:Own}{el:TypeId}{z:Value}{ti:TypeInfo}(hT:C.P.underlying t=some (.slice el))(hT':C.P.underlying t'=some .string)(hi:C.P.info? el=some ti)(hik:ti.size=Dat.k UInt8)(hib:ti.bytes≤1000)(hz:ti.zero=some z)(hzk:z.cells.size=Dat.k UInt8)
  (hx:Af e x=v) (hy:Af e y = .string (bs ys)) (hv:Grow ρ el v xs gr) (hlen:xs.length+ys.length<2^30)
  (h:∀v' gr',Grow ρ el v' (xs++ys) gr'→K v' ds ρ (gr'++σ)):wpS C.P ρ (execOp (Af e) ⟨dd,.call ⟨.builtin .append,#[x,y],#[t,t']⟩,ty,pos,af,g⟩) (gr++σ) (NextH C K rd ds ρ):=by
 have J:(#[x,y]:Array Operand).map (Af e) = #[v,.string (bs ys)]:=by simp[hx,hy]
 show wpS C.P ρ (builtin .append #[t,t'] ty ((#[x,y]:Array Operand).map fun | .const _=>true|_=>false) ((#[x,y]:Array Operand).map (Af e))) _ _
 rw[J]
 show wpS C.P ρ ((Builtin.append_ #[t,t'] ty #[v,.string (bs ys)]).bind fun v=>Sem.pure (Next.value v)) _ _
 refine Gd ?_
 obtain⟨va,vl,vc,hvs⟩:∃va vl vc,v = .slice va vl vc∧vl=xs.length:=by
  rcases hv.2.2 with⟨d,f⟩|⟨r,cap,cs,rs,gb,d,_⟩
  ·exact⟨none,0,0,d,by rw[f];rfl⟩
  ·exact⟨_,_,_,d,rfl⟩
 obtain⟨hvs,hvl⟩:=hvs
 subst hvl
 have hGo:∀(Q:Value→Own→Prop),(∀v' gr',Grow ρ el v' (xs++ys) gr'→Q v' (gr'++σ))→wpS C.P ρ (Builtin.append_ #[t,t'] ty #[v,.string (bs ys)]) (gr++σ) Q:=by
  intro Q hQ
  have B:∀{Q:Array Value→Own→Prop} {σ':Own},(∀cs,Rows ρ cs ys→Q cs.toArray σ')→wpS C.P ρ (Builtin.firstCells (Dat.k UInt8) ys.length (.string (bs ys))) σ' Q:=fun {Q σ'} hq=>by
   show Q (((bs ys).extract 0 ys.length).data.map fun (b:UInt8)=>Value.int .u8 (b.toNat:Int)) σ'
   rw[Xm,Qs,Wi]
   have e:((bs ys).data.map fun (b:UInt8)=>Value.int .u8 (b.toNat:Int))=(ys.map fun (c:UInt8)=>Value.int .u8 (c.toNat:Int)).toArray:=by apply Array.ext';simp[bs]
   rw[e];exact hq _ (Ug _)
  rw[hvs]
  unfold Builtin.append_
  show wpS C.P ρ ((underlying t).bind _) _ _
  rw[Ad]
  refine Az hT ?_
  show wpS C.P ρ ((sizeOf el).bind _) _ _
  rw[Ad]
  refine Dx ⟨ti,hi,hik⟩ ?_
  show wpS C.P ρ ((underlying t').bind _) _ _
  rw[Ad]
  refine Az hT' ?_
  have N:∀{Q:Array Value→Own→Prop},(∀cs,Rows ρ cs xs→Q cs.toArray (gr++σ))→wpS C.P ρ (Builtin.firstCells (Dat.k UInt8) xs.length (.slice va xs.length vc)) (gr++σ) Q:=fun {Q} hq=>by
   rcases hv.2.2 with⟨d,f⟩|⟨r,cap,cs,rs,gb,d,f,m,q,I⟩
   ·subst f
    rw[hvs]at d
    simp only[Ic,Value.slice.injEq]at d
    obtain⟨rfl,-,rfl⟩:=d
    exact hq [] rfl
   ·rw[hvs]at d;cases d
    show wpS C.P ρ (loadCells ⟨r,0,none⟩ (xs.length*Dat.k UInt8)) _ _
    rw[←m.len]
    refine Ff (a:=⟨r,0,none⟩) (o:=.cells (cs++rs).toArray el (0,0)) rfl (.inr (by rw[f];simp)) cs 0 #[] (fun j u hj=>?_) ?_
    ·simp only[Gy,Nn,Gk]
     rw[Abd (lZ8.1 hj).1];exact hj
    ·have D:(#[]:Array Value)++cs.toArray=cs.toArray:=by simp
     rw[D];exact hq cs m
  by_cases hn:xs.length+ys.length≤vc
  ·show wpS C.P ρ (if xs.length+ys.length≤vc then (Builtin.firstCells (Dat.k UInt8) ys.length (.string (bs ys))).bind _ else _) _ _
   rw[if_pos hn,Ad]
   refine B fun cs' n=>?_
   rcases hv.2.2 with⟨d,f⟩|⟨r,cap,cs,rs,gb,d,f,m,q,I⟩
   ·subst f
    rw[hvs]at d
    simp only[Ic,Value.slice.injEq]at d
    obtain⟨rfl,-,rfl⟩:=d
    have R:ys=[]:=Za (by simpa using hn)
    subst R
    exact hQ _ gr ⟨hv.1,by simp,.inl ⟨rfl,rfl⟩⟩
   ·rw[hvs]at d;cases d
    show wpS C.P ρ ((storeCells ((⟨r,0,none⟩:Addr).add (xs.length*Dat.k UInt8)) cs'.toArray.toList).bind _) _ _
    rw[Ad,Ld,Awd,Nn]
    have hl:xs.length*Dat.k UInt8+cs'.length≤(cs++rs).length:=by
     rw[q,n.len,←Ob];exact Awc _ hn
    refine Ns (r:=r) (i:=0) cs' ⟨r,xs.length*Dat.k UInt8,none⟩ 0 (cs++rs) (gr++σ) rfl rfl n.sgl (by rw[f];rfl) (by simpa using hl) ?_
    have E:over (cs++rs) (xs.length*Dat.k UInt8+0) cs'=(cs++cs')++(cs++rs).drop (xs.length*Dat.k UInt8+cs'.length):=by
     rw[Rl,Qe _ _ _ hl,←m.len,Act,lZ6]
    have F:(gr++σ).set 0 (r,Res.obj (.cells (over (cs++rs) (xs.length*Dat.k UInt8+0) cs').toArray el (0,0)))=((r,Res.obj (.cells ((cs++cs')++(cs++rs).drop (xs.length*Dat.k UInt8+cs'.length)).toArray el (0,0)))::gb)++σ:=by
     rw[f,E];rfl
    simp only[]
    rw[F]
    refine hQ _ _ ⟨fun p hp=>?_,by rw[lZ1];omega,.inr ⟨r,vc,cs++cs',_,gb,by rw[lZ1,Ea],rfl,m.append n,?_,by rw[lZ1];exact hn⟩⟩
    ·rcases lZ5.1 hp with rfl|hp
     ·exact⟨_,rfl⟩
     ·exact hv.1 p (by rw[f];exact lZ0 _ hp)
    ·rw[lZ1,lZ1,Fc,←q,m.len]
     omega
  ·show wpS C.P ρ (if xs.length+ys.length≤vc then _ else (typeInfo el).bind _) _ _
   rw[if_neg hn,Ad]
   refine Gj hi ?_
   have L:¬(((xs.length+ys.length:Nat):Int)>IntKind.i64.max∧((false=true)∨ti.bytes=0)):=by
    intro⟨d,_⟩
    have:IntKind.i64.max=9223372036854775807:=by simp[IntKind.max,IntKind.signed,IntKind.bits]
    omega
   show wpS C.P ρ (if ((xs.length+ys.length:Nat):Int)>IntKind.i64.max∧((false=true)∨ti.bytes=0) then _ else (typeInfo el).bind _) _ _
   rw[if_neg L,Ad]
   refine Gj hi ?_
   have M:¬(Builtin.nextslicecap (xs.length+ys.length) vc*ti.bytes>2^48):=by
    have d:=Alk (need:=xs.length+ys.length) (cap:=vc) (by omega)
    have f:Builtin.nextslicecap (xs.length+ys.length) vc*ti.bytes≤(2*(xs.length+ys.length)+1000)*1000:=Zf d hib
    omega
   show wpS C.P ρ (if Builtin.nextslicecap (xs.length+ys.length) vc*ti.bytes>2^48 then _ else (choose (.appendCap (xs.length+ys.length) vc el)).bind _) _ _
   rw[if_neg M,Ad]
   show (if (Question.appendCap (xs.length+ys.length) vc el).forced then _ else ∀tt,_)
   rw[if_neg (by simp[Question.forced])]
   intro tt
   have w:xs.length+ys.length≤(Question.appendCap (xs.length+ys.length) vc el).cut tt:=by simp[Question.cut]
   generalize (Question.appendCap (xs.length+ys.length) vc el).cut tt=nc at w
   show wpS C.P ρ ((typeInfo el).bind _) _ _
   rw[Ad]
   refine Gj hi ?_
   show wpS C.P ρ ((askRoom (nc*ti.bytes)).bind _) _ _
   rw[Ad]
   have O:∀{Q:Unit→Own→Prop} {σ':Own},Q () σ'→wpS C.P ρ (askRoom (nc*ti.bytes)) σ' Q:=fun hq=>by
    unfold askRoom
    split
    ·exact⟨rfl,hq⟩
    ·exact hq
   refine O ?_
   show wpS C.P ρ ((Builtin.firstCells (Dat.k UInt8) xs.length (.slice va xs.length vc)).bind _) _ _
   rw[Ad]
   refine N fun cs hcs=>?_
   show wpS C.P ρ ((Builtin.firstCells (Dat.k UInt8) ys.length (.string (bs ys))).bind _) _ _
   rw[Ad]
   refine B fun cs' n=>?_
   show wpS C.P ρ ((zeroValue el).bind _) _ _
   rw[Ad]
   refine Jz ⟨ti,hi,hz⟩ ?_
   show wpS C.P ρ ((newRow el (cs.toArray++cs'.toArray++Builtin.zeroCells z.cells (nc-(xs.length+ys.length)))).bind _) _ _
   rw[Ad]
   refine Ik fun r=>?_
   have G:(cs.toArray++cs'.toArray++Builtin.zeroCells z.cells (nc-(xs.length+ys.length)))=((cs++cs')++(Builtin.zeroCells z.cells (nc-(xs.length+ys.length))).toList).toArray:=by
    apply Array.ext';simp
   rw[G]
   refine hQ _ ((r,Res.obj (.cells ((cs++cs')++(Builtin.zeroCells z.cells (nc-(xs.length+ys.length))).toList).toArray el (0,0)))::gr) ⟨fun p hp=>?_,by rw[lZ1];omega,.inr ⟨r,nc,cs++cs',_,gr,by rw[lZ1,Ea],rfl,hcs.append n,?_,by rw[lZ1];exact w⟩⟩
   ·rcases lZ5.1 hp with rfl|hp
    ·exact⟨_,rfl⟩
    ·exact hv.1 p hp
   ·have H:(Builtin.zeroCells z.cells (nc-(xs.length+ys.length))).toList.length=(nc-(xs.length+ys.length))*Dat.k UInt8:=by
     simp[Builtin.zeroCells,hzk]
    rw[lZ1,lZ1,hcs.len,n.len,H,←Ob,←Ob]
    congr 1;omega
 exact hGo _ h
end
end
section
open Go
theorem Aaj{α:Type}{P:Program}{ρ:Ro}{σ:Own}{Q:α→Own→Prop}{c:Prop}[Decidable c]{a b:Sem α}(hc:¬c)(h:wpS P ρ b σ Q):wpS P ρ (if c then a else b) σ Q:=by rw[if_neg hc];exact h
theorem Ayl{α:Type}{P:Program}{ρ:Ro}{σ:Own}{Q:α→Own→Prop}{c:Prop}[Decidable c]{a b:Sem α}(hc:c)(h:wpS P ρ a σ Q):wpS P ρ (if c then a else b) σ Q:=by rw[if_pos hc];exact h
theorem Wk(t t' ty:TypeId)(a:Addr)(n:Int):∃A B D:Sem Value,Builtin.unsafeString_ #[t,t'] ty #[.pointer (some a),.int .i64 n]=if n<0 then A else if n>IntKind.i64.max then B else if n=0 then Sem.pure (.string .empty) else
  (elemOf t).bind fun u=>(variablesAt a u n.toNat).bind fun ok=>if ok=true then (loadBytes a .empty n.toNat).bind fun s=>(freeze a n.toNat).bind fun _=>Sem.pure (.string s) else D:=⟨_,_,_,rfl⟩
theorem Baf{α:Type}[Dat α]{ρ:Ro}{el:TypeId}{v:Value}{xs:List α}{gr:Own}(h:Grow ρ el v xs gr)(hx:xs≠[]):∃cap,v = .slice (some ⟨Ahx v,0,none⟩) xs.length cap∧cap≠0:=by
 rcases h.2.2 with⟨_,a⟩|⟨r,cap,cs,rs,gb,b,a,c,d,e⟩
 ·exact absurd a hx
 ·subst b
  refine⟨cap,rfl,?_⟩
  have:0<xs.length:=Aop.2 hx
  omega
theorem Alb{P:Program}{ρ ρ₀:Ro}{e:Env}{ty t el:TypeId}{x:Operand}{v:Value}{xs:List UInt8}{gr:Own}(hG:Grow ρ₀ el v xs gr)(hn:xs≠[])(hx:Af e x=v):Yld P ρ e (.call ⟨.builtin .unsafeSliceData,#[x],#[t]⟩) ty (.pointer (some ⟨Ahx v,0,none⟩)):=by
 obtain⟨cap,a,b⟩:=Baf hG hn
 generalize Ahx v=bl at a ⊢
 subst a
 refine Mc (args:=[x]) (vs:=[.slice (some ⟨bl,0,none⟩) xs.length cap]) (s:=fun _=>Builtin.unsafeSliceData_ #[t] ty #[.slice (some ⟨bl,0,none⟩) xs.length cap]) (by simp[hx]) (fun _=>rfl) fun ρ' σ cs _=>?_
 show wpS P ρ' (if cap≠0 then (Sem.pure (Value.pointer (some ⟨bl,0,none⟩))) else _) σ _
 rw[if_pos b]
 exact⟨rfl,rfl⟩
theorem Bgs{n cap:Nat}(h:n≤cap):liesAt Tryz.prog Tryz.prog.depth 5 (cap/Tryz.prog.cellsOf 5) 0 5 n=true:=by
 have a:(Tryz.prog.depth==0)=false:=by kernel_rfl
 have hs:sameLayout Tryz.prog Tryz.prog.depth 5 5=true:=by kernel_rfl
 have hc:Tryz.prog.cellsOf 5=1:=by kernel_rfl
 rw[hc,Nat.div_one]
 generalize hD:Tryz.prog.depth=D at *
 cases D with
 | zero=>cases a
 | succ d =>
  have hr:rowAt Tryz.prog (sameLayout Tryz.prog (d+1) · 5) (d+1) 5 cap 0 n=true:=by
   unfold rowAt
   simp only[hc,hs]
   simp[h]
  unfold liesAt
  rw[hD,hr];rfl
theorem Bcn{P:Program}{ρ:Ro}{σ:Own}{r:Nat}{o:Obj}(ho:Has ρ σ r o){Q:ByteArray→Own→Prop}:∀(l:List UInt8) (off:Nat) (acc:ByteArray),
  (∀j c,l[j]?=some c→Gy o (off+j)=some (.int .u8 (c.toNat:Int)))→Q (acc++bs l) σ→wpS P ρ (loadBytes ⟨r,off,none⟩ acc l.length) σ Q
 | [],off,acc,_,h=>by
  have e:acc++bs []=acc:=by apply ByteArray.ext;rw[ByteArray.data_append];simp[bs]
  rw[e]at h;exact h
 | c::l,off,acc,hc,h=>by
  show wpS P ρ ((load ⟨r,off,none⟩).bind _) σ Q
  rw[Ad]
  refine⟨rfl,rfl,o,_,ho,by simpa using hc 0 c rfl,?_⟩
  show wpS P ρ (loadBytes ⟨r,off+1,none⟩ (acc.push ((c.toNat:Int).toNat).toUInt8) l.length) σ Q
  refine Bcn ho l (off+1) _ (fun j d hd=>?_) ?_
  ·have:=hc (j+1) d (by simpa using hd)
   rw[show off+1+j=off+(j+1) by omega];exact this
  ·have e:acc.push ((c.toNat:Int).toNat).toUInt8++bs l=acc++bs (c::l):=by
    apply ByteArray.ext
    rw[ByteArray.data_append,ByteArray.data_append]
    show (acc.data.push _)++l.toArray=acc.data++(c::l).toArray
    rw[show ((c.toNat:Int).toNat).toUInt8=c by rw[Age];exact UInt8.ofNat_toNat]
    apply Array.ext'
    simp
   rw[e];exact h
section
variable{C:Ctx}{e:Env}{ds:List Deferred}{ρ:Ro}{σ:Own}{K:Value→List Deferred→Ro→Own→Prop}{rd:Option Nat}{dd:Option Tmp}
variable{ty:TypeId}{pos:String}{af:Array Edge}{g:Option (Nat×Bool)}{x y:Operand}{v:Value}{t t':TypeId}
theorem Aah{xs:List UInt8}{gr:Own}{el et:TypeId}(hT:C.P.underlying t=some (.pointer et))(hn:xs≠[])(hG:Grow ρ el v xs gr)(hx:Af e x = .pointer (some ⟨Ahx v,0,none⟩))(hy:Af e y = .int .i64 (xs.length:Int))
  (hl:∀n cap,n≤cap→liesAt C.P C.P.depth el (cap/C.P.cellsOf el) 0 et n=true)
  (h:∀gr':Own,(∀p∈gr',∃o,p.2=Res.obj o)→K (.string (bs xs)) ds ρ (gr'++σ)):wpS C.P ρ (execOp (Af e) ⟨dd,.call ⟨.builtin .unsafeString,#[x,y],#[t,t']⟩,ty,pos,af,g⟩) (gr++σ) (NextH C K rd ds ρ):=by
 have q:(#[x,y]:Array Operand).map (Af e) = #[.pointer (some ⟨Ahx v,0,none⟩),.int .i64 (xs.length:Int)]:=by simp[hx,hy]
 show wpS C.P ρ (builtin .unsafeString #[t,t'] ty ((#[x,y]:Array Operand).map fun | .const _=>true|_=>false) ((#[x,y]:Array Operand).map (Af e))) _ _
 rw[q]
 show wpS C.P ρ ((Builtin.unsafeString_ #[t,t'] ty #[.pointer (some ⟨Ahx v,0,none⟩),.int .i64 (xs.length:Int)]).bind fun v=>Sem.pure (Next.value v)) _ _
 refine Gd ?_
 have z:0<xs.length:=Aop.2 hn
 have hlt:=hG.2.1
 rcases hG.2.2 with⟨_,a⟩|⟨r,cap,cs,rs,gb,i,a,b,k,m⟩
 ·exact absurd a hn
 ·have hb:Ahx v=r:=by rw[i];rfl
  rw[hb]
  have ho:Has ρ (gr++σ) r (.cells (cs++rs).toArray el (0,0)):=.inr (by rw[a];simp)
  have hcl:cs.length=xs.length:=by rw[b.len];exact Acv _
  have hcs:cs=xs.map fun c:UInt8=>Value.int .u8 (c.toNat:Int):=Agp b
  have w:(cs++rs).length=cap:=by rw[k];exact Acv _
  obtain⟨A,B,D,key⟩:=Wk t t' ty ⟨r,0,none⟩ (xs.length:Int)
  rw[key]
  refine Aaj (c:=(xs.length:Int)<0) (by omega) ?_
  refine Aaj (c:=(xs.length:Int)>IntKind.i64.max) (by show ¬_>(9223372036854775807:Int);omega) ?_
  refine Aaj (c:=(xs.length:Int)=0) (by omega) ?_
  show wpS C.P ρ ((elemOf t).bind fun u=>(variablesAt ⟨r,0,none⟩ u (xs.length:Int).toNat).bind _) _ _
  rw[Ad]
  show wpS C.P ρ ((underlying t).bind _) _ _
  rw[Ad]
  refine Az hT ?_
  show wpS C.P ρ ((variablesAt ⟨r,0,none⟩ et (xs.length:Int).toNat).bind _) _ _
  rw[Ad]
  unfold variablesAt
  show wpS C.P ρ (program.bind _) _ _
  rw[Ad]
  show wpS C.P ρ ((shape r).bind _) _ _
  rw[Ad]
  refine⟨_,ho,?_⟩
  simp only[Xk]
  rw[show (cs++rs).toArray.size=cap by rw[←w];simp,Age]
  refine Ayl (c:=liesAt C.P C.P.depth el (cap/C.P.cellsOf el) 0 et xs.length=true) (hl _ _ m) ?_
  show wpS C.P ρ ((loadBytes ⟨r,0,none⟩ .empty xs.length).bind _) _ _
  rw[Ad]
  refine Bcn ho xs 0 _ (fun j c hj=>?_) ?_
  ·simp only[Gy,Nn,Gk]
   rw[Abd (by rw[hcl];exact(lZ8.1 hj).1),hcs,Mg,hj];rfl
  ·have d:ByteArray.empty++bs xs=bs xs:=by apply ByteArray.ext;rw[ByteArray.data_append];show #[]++_=_;simp
   rw[d]
   show wpS C.P ρ ((freeze ⟨r,0,none⟩ xs.length).bind _) _ _
   rw[Ad]
   refine .inr ⟨by omega,0,_,el,0,0,by rw[a];rfl,?_⟩
   show K (.string (bs xs)) ds ρ _
   have f:∀o:Res,(gr++σ).set 0 (r,o)=((r,o)::gb)++σ:=fun o=>by rw[a];rfl
   rw[f]
   exact h _ fun p hp=>by
    rcases lZ5.1 hp with rfl|hp
    ·exact⟨_,rfl⟩
    ·exact hG.1 p (by rw[a];exact lZ0 _ hp)
end
end
section
open Go
variable{mn:Bool}{X:Frame→List Frame→Ro→Own→Cy→Prop}{ρ:Ro}{σ:Own}
theorem Aem{r:Nat}{xs:List UInt8}{vb:Value}{gb:Own}(hb:Grow ρ 5 vb xs gb):CallsH (CX mn X) 52 #[pV r] ρ ((r,oC #[.pointer none,vb] 88)::(gb++σ)) (fun w ρ' σ'=>ρ'=ρ∧σ'=(r,oC #[pV r,vb] 88)::(gb++σ)∧w = .tuple #[]):=by
 refine Ba 20 [] Bjw rfl fun Q e b=>w_q rfl rfl fun d c=>Au (pV r) (l_v (Ck rfl) (l_v (Fx Bjg rfl (Ab Bjp)) (Arv (Dt (i:=0) (v:=.pointer none) ⟨_,Bji,rfl⟩ rfl rfl rfl ?_))))
 refine l_v (Ala (a:=none) Bji rfl rfl) (l_k c (Co rfl rfl (Ag rfl rfl (Au (pV r) (Au (pV r) (Arv (Ate (i:=0) Bji Tryz.underlying245 ⟨_,Ab Bjr,rfl⟩ (by decide) rfl rfl nL ?_)))))))
 refine Ams rfl Tryz.func106 rfl rfl rfl rfl (Bgt rfl) Aur (Arv (Bbz (i:=0) Tryz.underlying245 Bji ⟨_,Ab Bjr,rfl⟩ (by decide) rfl rfl (by kernel_rfl) ?_))
 refine l_v (Ck rfl) (l_v (Fx Bjg rfl (Ab Bjp)) (Cx rfl (Cz (j:=0) (v:=pV r) ⟨_,Ab Bjp,rfl⟩ rfl rfl rfl rfl nL ?_)))
 apply Ac
 refine b ⟨rfl,rfl,rfl⟩
theorem Aen{r:Nat}{xs:List UInt8}{vb:Value}{gb:Own}(hb:Grow ρ 5 vb xs gb):CallsH (CX mn X) 52 #[pV r] ρ ((r,oC #[pV r,vb] 88)::(gb++σ)) (fun w ρ' σ'=>ρ'=ρ∧σ'=(r,oC #[pV r,vb] 88)::(gb++σ)∧w = .tuple #[]):=by
 refine Ba 20 [] Bjw rfl fun Q g b=>w_q rfl rfl fun e c=>Au (pV r) (l_v (Ck rfl) (l_v (Fx Bjg rfl (Ab Bjp)) (Arv (Dt (i:=0) (v:=pV r) ⟨_,Bji,rfl⟩ rfl rfl rfl ?_))))
 refine l_v (Ala (a:=some ⟨r,0,none⟩) Bji rfl rfl) (l_k c (Cg rfl rfl (w_q rfl rfl fun f d=>Au (pV r) (l_v (Ck rfl) (l_v (Fx Bjg rfl (Ab Bjp)) (Arv (Dt (i:=0) (v:=pV r) ⟨_,Bji,rfl⟩ rfl rfl rfl ?_)))))))
 refine Au (pV r) (l_v (Bcc Bji ⟨_,Ab Bjr,rfl⟩ (by decide) rfl rfl) (l_k d (Cg rfl rfl (Al (b ⟨rfl,rfl,rfl⟩)))))
theorem Xr{r:Nat}{xs:List UInt8}{vb:Value}{gb:Own}{s:List UInt8}(hb:Grow ρ 5 vb xs gb)(hx:xs.length+s.length≤1000000000):CallsH (CX mn X) 21 #[pV r,.string (bs s)] ρ ((r,oC #[.pointer none,vb] 88)::(gb++σ)) (fun w ρ' σ'=>ρ'=ρ∧∃(v':Value) (gr:Own),w = .tuple #[iV (s.length:Int),.nilIface]∧Grow ρ 5 v' (xs++s) gr∧σ'=(r,oC #[pV r,v'] 88)::(gr++σ)):=by
 refine Ba 19 [4,5] Bjt rfl fun Q e z=>w_q rfl rfl fun q g=>Av (iV 0) (Av .nilIface (Arx rfl rfl g fun t h=>Au (pV r) (Bj (Ghost.perm Asc) (Bj (Ghost.perm Asd) (Arv (Cm (vs:=[pV r]) (Aem (r:=r) hb) Bjw rfl rfl ⟨rfl,trivial⟩ fun B C D d=>?_))))))
 obtain⟨a,b,f⟩:=d
 replace a:=a.symm;replace b:=b.symm;subst a b f
 refine Arx rfl rfl h fun u k=>Au (pV r) (Au (pV r) (l_v (Ck rfl) (l_v (Fx Bjg rfl (Ab Bjj)) (Arv (Dt (i:=0) (v:=vb) ⟨_,Bjb,rfl⟩ rfl rfl rfl ?_)))))
 refine Au (.string (bs s)) (Bj (Ghost.perm Asc) (Arv (Vw (σ:=(r,oC #[pV r,vb] 88)::σ) (gr:=gb) (xs:=xs) (ys:=s) Bjb Biy (Ab Bjs) rfl nL rfl rfl rfl rfl hb (by omega) fun n y c=>?_)))
 refine l_v (Ck rfl) (l_v (Fx Bjg rfl (Ab Bjj)) (Bj (Ghost.perm Asd) (Cx rfl (Cz (j:=0) (v:=n) ⟨_,Ab Bjj,rfl⟩ rfl rfl (Grow.single c) rfl nL ?_))))
 refine Arx rfl rfl k fun x m=>Au (.string (bs s)) (l_v (Ce Biy (p:=s) rfl) (Av (iV (s.length:Int)) (Av .nilIface (l_k m (Aq (e ⟨rfl,_,_,Mp (r:=4) (r':=5) (rs:=[]) (v:=iV (s.length:Int)) (v':=.nilIface) (vs:=[]) ⟨rfl,rfl,trivial⟩,c,rfl⟩))))))
theorem Xu{r:Nat}{xs:List UInt8}{vb:Value}{gb:Own}{s:List UInt8}(hb:Grow ρ 5 vb xs gb)(hx:xs.length+s.length≤1000000000):CallsH (CX mn X) 21 #[pV r,.string (bs s)] ρ ((r,oC #[pV r,vb] 88)::(gb++σ)) (fun w ρ' σ'=>ρ'=ρ∧∃(v':Value) (gr:Own),w = .tuple #[iV (s.length:Int),.nilIface]∧Grow ρ 5 v' (xs++s) gr∧σ'=(r,oC #[pV r,v'] 88)::(gr++σ)):=by
 refine Ba 19 [4,5] Bjt rfl fun Q e z=>w_q rfl rfl fun q g=>Av (iV 0) (Av .nilIface (Arx rfl rfl g fun t h=>Au (pV r) (Bj (Ghost.perm Asc) (Bj (Ghost.perm Asd) (Arv (Cm (vs:=[pV r]) (Aen (r:=r) hb) Bjw rfl rfl ⟨rfl,trivial⟩ fun B C D d=>?_))))))
 obtain⟨a,b,f⟩:=d
 replace a:=a.symm;replace b:=b.symm;subst a b f
 refine Arx rfl rfl h fun u k=>Au (pV r) (Au (pV r) (l_v (Ck rfl) (l_v (Fx Bjg rfl (Ab Bjj)) (Arv (Dt (i:=0) (v:=vb) ⟨_,Bjb,rfl⟩ rfl rfl rfl ?_)))))
 refine Au (.string (bs s)) (Bj (Ghost.perm Asc) (Arv (Vw (σ:=(r,oC #[pV r,vb] 88)::σ) (gr:=gb) (xs:=xs) (ys:=s) Bjb Biy (Ab Bjs) rfl nL rfl rfl rfl rfl hb (by omega) fun n y c=>?_)))
 refine l_v (Ck rfl) (l_v (Fx Bjg rfl (Ab Bjj)) (Bj (Ghost.perm Asd) (Cx rfl (Cz (j:=0) (v:=n) ⟨_,Ab Bjj,rfl⟩ rfl rfl (Grow.single c) rfl nL ?_))))
 refine Arx rfl rfl k fun x m=>Au (.string (bs s)) (l_v (Ce Biy (p:=s) rfl) (Av (iV (s.length:Int)) (Av .nilIface (l_k m (Aq (e ⟨rfl,_,_,Mp (r:=4) (r':=5) (rs:=[]) (v:=iV (s.length:Int)) (v':=.nilIface) (vs:=[]) ⟨rfl,rfl,trivial⟩,c,rfl⟩))))))
theorem Aqk{r:Nat}{xs:List UInt8}{vb:Value}{gb:Own}(hb:Grow ρ 5 vb xs gb)(hne:xs≠[]):CallsH (CX mn X) 25 #[pV r] ρ ((r,oC #[pV r,vb] 88)::(gb++σ)) (rP ρ σ (.string (bs xs))):=by
 refine Ba 14 [2] Tryz.func25 rfl fun Q b j=>w_q rfl rfl fun e c=>Av (.string (ByteArray.mk #[])) (Asa c fun f d=>Wx ((r,oC #[pV r,vb] 88)::[]) [0,1,2,3,4,5,6,7,8,9,10,11] (by kernel_rfl) rfl rfl (Cu 0 (zT 1 11) rfl ⟨Bjy,sB⟩ rfl (Yld.o (Ah (v:=pV r) rfl)) (Cu 1 (zT 2 10) rfl ⟨Bjy,sB⟩ rfl (Yld.o (Ck rfl)) (Cu 2 (zT 3 9) rfl ⟨Bjy,sB⟩ rfl (Yld.o (Fx Bjg rfl (Ab Bjj))) (Cu 3 (zT 4 8) rfl ⟨Bjy,sB⟩ rfl (De (v:=vb) ⟨_,Bjb,rfl⟩ rfl mC rfl) (Cu 5 [o1,o1,o1,o1,o0,o1,o0,o0,o0,o0,o0,o0] rfl ⟨Bjy,sB⟩ rfl (Yld.o (Ah (v:=pV r) rfl)) (Cu 6 [o1,o1,o1,o1,o0,o1,o1,o0,o0,o0,o0,o0] rfl ⟨Bjy,sB⟩ rfl (Yld.o (Ck rfl)) (Cu 7 [o1,o1,o1,o1,o0,o1,o1,o1,o0,o0,o0,o0] rfl ⟨Bjy,sB⟩ rfl (Yld.o (Fx Bjg rfl (Ab Bjj))) (Cu 8 [o1,o1,o1,o1,o0,o1,o1,o1,o1,o0,o0,o0] rfl ⟨Bjy,sB⟩ rfl (De (v:=vb) ⟨_,Bjb,rfl⟩ rfl mC rfl) ?_)))))))))
 have g:=Grow.len hb
 refine Cu 9 [o1,o1,o1,o1,o0,o1,o1,o1,o1,o1,o0,o0] rfl ⟨Bjy,sB⟩ rfl (Yld.o (Ajw (el':=5) Bjb rfl hb)) (Hs 4 (zT 10 2) rfl ⟨Bjy,sB⟩ rfl (Yld.o (Alb hb hne rfl)) ⟨Bjy,sB⟩ (Ben Asc (Bep 10 (zT 11 1) rfl rfl (Aah (σ:=(r,oC #[pV r,vb] 88)::σ) (gr:=gb) (v:=vb) (xs:=xs) Tryz.underlying168 hne hb rfl rfl (fun _ _ h=>Bgs h) fun i a=>⟨⟨Bjy,sB⟩,?_⟩))))
 refine Hs 11 (zT 12 0) rfl ⟨Bjy,sB⟩ rfl (Yld.o (Cp (v:=.string (bs xs)) rfl)) ⟨Bjy,sB⟩ (Adl rfl (kk d ?_))
 refine Aj (drops a) (Aj Ghost.drop (Aq (b (rT (.string (bs xs)) ?_))))
 rfl
end
section
open Go
section
variable{e:Env}{ρ:Ro}{xs:Array Operand}{vs:Array Value}{tys:Array TypeId}{ty:TypeId}{f:FuncId}{fn:Func}{G:Array Value→Sem Value}
theorem Bca{P:Program}{σ:Own}{Q:Next→Own→Prop}(hf:P.funcs[f]?=some fn)(hn:(fn.name == "runtime.NumGoroutine")=false)(hb:fn.body.isNone=true)(hx0:Extern.findNext fn=none)(he:Extern.find fn=some G)
  (h:wpS P ρ (G vs) σ (fun v σ'=>Q (.value v) σ')):wpS P ρ (callFunc f vs) σ Q:=by
 unfold callFunc
 show wpS P ρ ((program).bind _) σ Q
 rw[Ad]
 show wpS P ρ (match P.funcs[f]? with|none=>_|some fn=>_) σ Q
 rw[hf]
 simp only[hn,hb]
 show wpS P ρ ((Go.mark (.extern f)).bind _) σ Q
 rw[Ad]
 refine⟨trivial,?_⟩
 simp only[hx0,he]
 show wpS P ρ ((G vs).bind fun v=>Sem.pure (Next.value v)) σ Q
 rw[Ad]
 exact h
theorem Auq(e:Env)(hx:xs.map (Af e)=vs)(d:Option Tmp)(pos:String)(af:Array Edge)(g:Option (Nat×Bool)):execOp (Af e) ⟨d,.call ⟨.value (.func f),xs,tys⟩,ty,pos,af,g⟩=callFunc f vs:=by
 show callFunc f ((#[]++xs.map (Af e)) ++ #[])=_
 rw[Sn,Rk,hx]
end
end
section
open Go
section
variable{e:Env}{ρ:Ro}{xs:Array Operand}{vs:Array Value}{tys:Array TypeId}{ty:TypeId}{f:FuncId}{fn:Func}{G:Array Value→Sem Value}
end
theorem Akk{α:Type}[Dat α]{ρ:Ro}:∀{xs ys:List α} {cs:List Value},Rows ρ cs (xs++ys)→∃c1 c2,cs=c1++c2∧Rows ρ c1 xs∧Rows ρ c2 ys
 | [],ys,cs,h=>⟨[],cs,rfl,rfl,h⟩
 | x::xs,ys,cs,⟨c1,c2,h1,h2,h3⟩=>by
  obtain⟨d1,d2,g1,g2,g3⟩:=Akk (xs:=xs) h3
  exact⟨c1++d1,d2,by rw[h1,g1,lZ6],⟨c1,d1,rfl,h2,g2⟩,g3⟩
section
variable{C:Ctx}{e:Env}{ds:List Deferred}{ρ:Ro}{σ:Own}{K:Value→List Deferred→Ro→Own→Prop}{rd:Option Nat}{dd:Option Tmp}
variable{ty:TypeId}{pos:String}{af:Array Edge}{g:Option (Nat×Bool)}{x y:Operand}{v:Value}{t t':TypeId}
theorem Grow.part{α:Type}[Dat α]{el:TypeId}{a:Option Addr}{len cap h:Nat}{xs:List α}{gr:Own}(hG:Grow ρ el (.slice a len cap) xs gr)(hh:h≤xs.length):Grow ρ el (.slice a h cap) (xs.take h) gr:=by
 rcases hG.2.2 with⟨d,e⟩|⟨r,k,cs,rs,gb,d,e,i,j,n⟩
 ·subst e
  have:h=0:=by simpa using hh
  subst this
  cases d
  exact⟨hG.1,by simp,.inl ⟨rfl,rfl⟩⟩
 ·cases d
  obtain⟨b,c,f,g,m⟩:∃b c,cs=b++c∧Rows ρ b (xs.take h)∧Rows ρ c (xs.drop h):=by
   have:=i
   rw[←Aix h xs]at this
   exact Akk this
  refine⟨hG.1,by have:=hG.2.1;rw[Er];omega,.inr ⟨r,cap,b,c++rs,gb,by rw[Er,Nat.min_eq_left hh],by rw[e,f,lZ6],g,by rw[←j,f,lZ6],by rw[Er];omega⟩⟩
theorem Ans{P:Program}{α:Type}[Dat α]{xs:List α}{gr:Own}{el:TypeId}{k:IntKind}{q:Int}(h:Nat)(hT:P.underlying t=some (.slice el))(hE:∃i,P.info? el=some i∧i.size=Dat.k α)(hx:Af e x=v)(hv:Grow ρ el v xs gr)(hy:Af e y = .int k q)(hq:q=(h:Int))(hh:h≤xs.length) :
  ∃w,Grow ρ el w (xs.take h) gr∧Yld P ρ e (.slice t x none (some y) none) ty w:=by
 obtain⟨a,len,cap,b,c,d⟩:∃a len cap,v = .slice a len cap∧len=xs.length∧len≤cap:=by
  rcases hv.2.2 with⟨b,c⟩|⟨r,cap,cs,rs,gb,b,c,d,g,f⟩
  ·exact⟨none,0,0,b,by simp[c],Dp _⟩
  ·exact⟨_,_,_,b,rfl,f⟩
 subst b
 refine⟨_,hv.part hh,Mt (s:=Instr.sliceAt t (Af e x) none (some (Af e y)) none) (fun _ _ _ _=>rfl) fun ρ' σ _=>?_⟩
 rw[hx,hy,hq]
 show wpS P ρ' ((underlying t).bind _) σ _
 rw[Ad]
 refine Az hT ?_
 show wpS P ρ' ((underlying t).bind _) σ _
 rw[Ad]
 refine Az hT ?_
 simp only[]
 show wpS P ρ' ((Instr.sliceBounds true len cap none (some (.int k h)) none).bind _) σ _
 have hb:Instr.sliceBounds true len cap none (some (.int k (h:Int))) none=pure (0,h,cap):=by
  show (do let m ←pure cap;let hh ←Instr.sliceBound (.int k (h:Int)) m _;let l ←pure 0;pure (l,hh,m):Sem _)=_
  have:Instr.sliceBound (.int k (h:Int)) cap .sliceAcap=pure h:=by
   show (if 0≤(h:Int)∧(h:Int)≤cap then pure (h:Int).toNat else _)=_
   rw[if_pos (by omega)];simp
  show (Instr.sliceBound (.int k (h:Int)) cap .sliceAcap).bind _=_
  rw[this];rfl
 rw[hb]
 show wpS P ρ' ((sizeOf el).bind _) σ _
 rw[Ad]
 refine Dx hE ⟨?_,rfl⟩
 by_cases hc:cap=0
 ·simp[hc]
 ·cases a with
  | none=>simp[hc]
  | some ad=>simp[hc,Addr.add]
end
end
section
open Go
theorem Bgb:Fw Tryz.prog 88 (.agg #[.pointer none,.slice none 0 0]):=⟨_,Ab Bjr,rfl⟩
def smL:List UInt8:=(List.append (List.append [48,48,48,49,48,50,48,51,48,52,48,53,48,54,48,55,48,56,48,57,49,48,49,49,49,50,49,51,49,52,49,53,49,54,49,55,49,56,49,57,50,48,50,49,50,50,50,51,50,52] [50,53,50,54,50,55,50,56,50,57,51,48,51,49,51,50,51,51,51,52,51,53,51,54,51,55,51,56,51,57,52,48,52,49,52,50,52,51,52,52,52,53,52,54,52,55,52,56,52,57]) (List.append [53,48,53,49,53,50,53,51,53,52,53,53,53,54,53,55,53,56,53,57,54,48,54,49,54,50,54,51,54,52,54,53,54,54,54,55,54,56,54,57,55,48,55,49,55,50,55,51,55,52] [55,53,55,54,55,55,55,56,55,57,56,48,56,49,56,50,56,51,56,52,56,53,56,54,56,55,56,56,56,57,57,48,57,49,57,50,57,51,57,52,57,53,57,54,57,55,57,56,57,57]))
theorem Bbs{n:Nat}(h0:10≤n)(h:n<100):(smL.take (n*2+2)).drop (n*2)=Ev n:=by
 have key:(List.range 100).all (fun n=>decide (n<10)||((smL.take (n*2+2)).drop (n*2)==Ev n))=true:=by decide +kernel
 have:=Gn.1 key n (Acr.2 h)
 rw[Sq (by omega),Aox]at this
 exact eq_of_beq this
theorem Bbr{n:Nat}(h:n<10):((([48,49,50,51,52,53,54,55,56,57,97,98,99,100,101,102,103,104,105,106,107,108,109,110,111,112,113,114,115,116,117,118,119,120,121,122]:List UInt8).take (n+1)).drop n)=Ev n:=by
 have key:(List.range 10).all (fun n=>((([48,49,50,51,52,53,54,55,56,57,97,98,99,100,101,102,103,104,105,106,107,108,109,110,111,112,113,114,115,116,117,118,119,120,121,122]:List UInt8).take (n+1)).drop n)==Ev n)=true:=by decide +kernel
 exact eq_of_beq (Gn.1 key n (Acr.2 h))
end
section
open Go
def bw(ws:List (List UInt8)):List ByteArray:=ws.map bs
section
variable{l:Lab}{m:Market}
end
end
section
open Go
theorem Bgi{c n:UInt8}(h:((c.toNat:Nat):Int)=((n.toNat:Nat):Int)):c=n:=UInt8.toNat_inj.1 (by omega)
theorem Auh{c n:UInt8}(h:¬((c.toNat:Nat):Int)=((n.toNat:Nat):Int)):c≠n:=fun e=>h (by rw[e])
theorem Azw{α:Type}{l:List α}{i:Nat}{x:α}(h:l[i]?=some x):l.drop i=x::l.drop (i+1):=by
 have hi:i<l.length:=(lZ8.1 h).1
 rw[Avi hi]
 rw[Qq hi]at h
 rw[Option.some.inj h]
theorem Ahn{d:List UInt8}{i:Nat}{c:UInt8}(h:d[i]?=some c):Yb (d.take (i+1))=10*Yb (d.take i)+(c.toNat-48):=by rw[Vc h,Ahm]
theorem Aey:∀{n:Nat} {d:List UInt8},d.all Dm=true→d.length≤n→Yb d<10^n
 | n,d=>by
  intro ha hl
  have key:∀(l:List UInt8) (a k:Nat),l.all Dm=true→a<10^k→l.foldl (fun n c=>10*n+(c.toNat-48)) a<10^(k+l.length):=by
   intro l
   induction l with
   | nil=>intro a k _ h;simpa using h
   | cons c l ih =>
    intro a k ha h
    simp only[Yt,Gm]at ha
    have hc:c.toNat-48≤9:=by have:=ha.1;unfold Dm at this;simp at this;omega
    have:=ih (10*a+(c.toNat-48)) (k+1) ha.2 (by rw[Nat.pow_succ];omega)
    rw[Aou,lZ7,show k+(l.length+1)=k+1+l.length by omega]
    exact this
  have b:=key d 0 0 ha (by decide)
  rw[Nn]at b
  exact Je b (Nat.pow_le_pow_right (by decide) hl)
theorem Asy{s:List UInt8}(h:Lz s=true):(s.take s.length).drop 1=Hj s:=by unfold Hj;rw[h,if_pos rfl,Qs]
def Od(s:List UInt8):Int:=if Ho s then Ie s else 0
theorem Amy{s:List UInt8}(h:Ho s=false):Od s=0:=by unfold Od;rw[h];rfl
theorem Awn{s:List UInt8}(h:Ho s=true):Od s=Ie s:=by unfold Od;rw[h,if_pos rfl]
theorem Apc{s:List UInt8}:-1000000000<Od s∧Od s<1000000000:=by
 unfold Od
 split
 ·rename_i h
  have hh:=h
  unfold Ho at h
  simp only[Gm,decide_eq_true_eq]at h
  have:=Aey (n:=9) h.1.2 h.1.1.2
  unfold Ie
  split<;>omega
 ·omega
end
section
open Go
theorem Yi{n:Nat}{p q:Nat→Bool}(h:∀i,i<n→p i=q i):Cl n p=Cl n q:=by
 rcases Ft (n:=n) (p:=q) with⟨i,hi,hp,hj,he⟩|⟨a,he⟩
 ·rw[he];exact Fh (fun j hj'=>by rw[h j (by omega)];exact hj j hj') hi (by rw[h i hi];exact hp)
 ·rw[he];exact Ep fun j hj=>by rw[h j hj];exact a j hj
def Ii(c:UInt8)(p:List UInt8):Int:=Oi p (fun x=>x==c)
theorem Px{c:UInt8}{p:List UInt8}:(∃i:Nat,Ii c p=(i:Int)∧i<p.length∧p[i]?=some c∧∀j,j<i→p[j]?≠some c)∨(Ii c p = -1∧∀x∈p,x≠c):=by
 unfold Ii Oi
 rcases Ft (n:=p.length) (p:=atP p (fun x=>x==c)) with⟨i,hi,hp,hj,he⟩|⟨a,he⟩
 ·refine .inl ⟨i,by rw[he],hi,?_,fun j hj' hc=>?_⟩
  ·obtain⟨x,hx⟩:=Ed hi
   simp only[atP,hx]at hp
   rw[hx,eq_of_beq hp]
  ·have:=hj j hj'
   simp only[atP,hc]at this
   simp at this
 ·refine .inr ⟨by rw[he],fun x hx hc=>?_⟩
  obtain⟨i,hi⟩:=Aom.1 hx
  have:=a i (lZ8.1 hi).1
  simp only[atP,hi,hc]at this
  simp at this
theorem Bda{p:List UInt8}{i:Nat}(h:i<p.length):p[i]?=some ((bs p)[i]!):=by
 show _=some ((ByteArray.mk p.toArray)[i]!)
 rw[Go.Lib.get!_eq,Qp,Qq h];rfl
theorem Abl{c:UInt8}:Extern.Bytes.asByte (.int .u8 (c.toNat:Int))=Sem.pure c:=by
 show Sem.pure ((c.toNat:Int).toNat.toUInt8)=_
 rw[Age]
 show Sem.pure (UInt8.ofNat c.toNat)=_
 rw[UInt8.ofNat_toNat]
theorem Bab{P:Program}{ρ:Ro}{σ:Own}{p:List UInt8}{c:UInt8}:wpS P ρ (Extern.BytealgIndexByte.indexByte #[.string (bs p),.int .u8 (c.toNat:Int)]) σ (fun w σ'=>w = .int .i64 (Ii c p)∧σ'=σ):=by
 unfold Extern.BytealgIndexByte.indexByte
 show wpS P ρ ((Extern.Bytes.bytesOf (.string (bs p))).bind _) σ _
 rw[Ad]
 show wpS P ρ ((Extern.Bytes.asByte (.int .u8 (c.toNat:Int))).bind _) σ _
 rw[Ad,Abl]
 have e:((List.range (bs p).size).find? fun i=>(bs p)[i]! == c)=Cl p.length (atP p (fun x=>x==c)):=by
  rw[Ea]
  exact Yi fun i hi=>by simp only[atP,Bda hi]
 show wpS P ρ (match (List.range (bs p).size).find? fun i=>(bs p)[i]! == c with|some i=>pure (goInt i)|none=>pure (goInt (-1))) σ _
 rw[e]
 unfold Ii Oi
 cases Cl p.length (atP p (fun x=>x==c))<;>exact⟨rfl,rfl⟩
theorem Baa{P:Program}{ρ:Ro}{σ:Own}{p:List UInt8}{c:UInt8}:wpS P ρ (Extern.BytealgCount.count #[.string (bs p),.int .u8 (c.toNat:Int)]) σ (fun w σ'=>w = .int .i64 ((p.count c:Nat):Int)∧σ'=σ):=by
 unfold Extern.BytealgCount.count
 show wpS P ρ ((Extern.Bytes.bytesOf (.string (bs p))).bind _) σ _
 rw[Ad]
 show wpS P ρ ((Extern.Bytes.asByte (.int .u8 (c.toNat:Int))).bind _) σ _
 rw[Ad,Abl]
 show goInt ((bs p).foldl (fun (n:Int) x=>if x==c then n+1 else n) ((0:Nat):Int)) = .int .i64 ((p.count c:Nat):Int)∧σ=σ
 rw[Go.Lib.foldl_data,Go.Lib.count_foldl]
 exact⟨by show Value.int .i64 (0+_)=_;rw[Int.zero_add];rfl,rfl⟩
theorem Azm{α:Type}{s:List α}{m:Nat}{c:α}(h:s[m]?=some c):s=s.take m++c::s.drop (m+1):=by
 conv=>lhs;rw[←Aix m s]
 rw[Azw h]
theorem Ako{s:List UInt8}{m:Nat}(h:s[m]?=some 32)(hj:∀j,j<m→s[j]?≠some 32):Bv s=s.take m::Bv (s.drop (m+1)):=by
 conv=>lhs;rw[Azm h]
 unfold Bv
 rw[Nv (fun c hc he=>?_),Qt]
 obtain⟨j,hj'⟩:=Aom.1 hc
 rw[Avr]at hj'
 split at hj'
 ·rename_i hlt;exact hj j hlt (by rw[hj',he])
 ·cases hj'
theorem Akp{s:List UInt8}(h:∀x∈s,x≠32):Bv s=[s]:=by
 unfold Bv;rw[Rw h,Qt]
theorem Vb:∀{s acc:List UInt8},(Ir 32 acc s).length=s.count 32+1
 | [],acc=>rfl
 | x::s,acc=>by
  show (if x=32 then acc::Ir 32 [] s else Ir 32 (acc++[x]) s).length=_
  rw[List.count_cons]
  split
  ·rename_i h;rw[lZ7,Vb,h];simp
  ·rename_i h;rw[Vb];simp[h]
theorem Adt{s:List UInt8}:(Bv s).length=s.count 32+1:=Vb
theorem Bdj{s:List UInt8}{c:UInt8}:s.count c≤s.length:=List.count_le_length
theorem Ani{L:List (List UInt8)}{s:List UInt8}{i:Nat}(h:L.drop i=Bv s)(hi:i+1<L.length):∃m:Nat,Ii 32 s=(m:Int)∧m<s.length∧L[i]?=some (s.take m)∧L.drop (i+1)=Bv (s.drop (m+1)):=by
 rcases Px (c:=32) (p:=s) with⟨m,b,a,d,e⟩|⟨b,a⟩
 ·rw[Ako d e]at h
  refine⟨m,b,a,?_,?_⟩
  ·have:=congrArg (·[0]?) h
   simpa[Zd]using this
  ·have:=congrArg (List.drop 1) h
   rw[Amr]at this
   simpa using this
 ·rw[Akp a]at h
  have:=congrArg List.length h
  rw[Fc]at this
  simp at this;omega
theorem Anh{L:List (List UInt8)}{s:List UInt8}{i:Nat}(h:L.drop i=Bv s)(hi:i+1=L.length):L[i]?=some s:=by
 have hl:=congrArg List.length h
 rw[Fc]at hl
 rcases Px (c:=32) (p:=s) with⟨m,b,a,d,e⟩|⟨b,a⟩
 ·rw[Ako d e,lZ7,Adt]at hl;omega
 ·rw[Akp a]at h
  have:=congrArg (·[0]?) h
  simpa[Zd]using this
def spW(L:List (List UInt8))(i:Nat):List ByteArray:=bw (L.take i)++List.replicate (L.length-i) (ByteArray.mk #[])
theorem Bhl{L:List (List UInt8)}{n:Nat}(h:n=L.length):List.replicate n (ByteArray.mk #[])=spW L 0:=by
 unfold spW;rw[h];rfl
theorem En{L:List (List UInt8)}{i:Nat}(h:i≤L.length):(spW L i).length=L.length:=by
 unfold spW bw;rw[lZ1,Abh,Er,Aiw];omega
theorem App{L:List (List UInt8)}{i:Nat}{w:List UInt8}(h:L[i]?=some w):(spW L i).set i (bs w)=spW L (i+1):=by
 have hi:i<L.length:=(lZ8.1 h).1
 unfold spW
 have hl:(bw (L.take i)).length=i:=by unfold bw;rw[Abh,Er];omega
 rw[List.set_append_right _ _ (by omega),hl,Acu,show L.length-i=(L.length-(i+1))+1 by omega,Avq,Aio,Vc h]
 unfold bw
 rw[Ga,lZ6];rfl
theorem Bbt{L:List (List UInt8)}{i:Nat}(h:i=L.length):(spW L i).take i=bw L:=by
 unfold spW;rw[h,Qs,Acu,List.replicate_zero,Jt]
 exact Avk (by unfold bw;simp)
theorem Bfy{P:Program}{ρ:Ro}{e:Env}{ty:TypeId}{x y:Operand}{k:IntKind}{a b r:Nat}{tys:Array TypeId}(h:min a b=r)(hx:Af e x = .int k (a:Int))(hy:Af e y = .int k (b:Int)):Yld P ρ e (.call ⟨.builtin .min,#[x,y],tys⟩) ty (.int k (r:Int)):=by
 have c:=Ajx (P:=P) (ρ:=ρ) (ty:=ty) (tys:=tys) hx hy
 rwa[show min (a:Int) (b:Int)=(r:Int) by omega]at c
theorem Akm{ρ:Ro}:∀(n:Nat),Rows ρ (List.replicate n (Value.string (ByteArray.mk #[]))) (List.replicate n (ByteArray.mk #[]))
 | 0=>rfl
 | n+1=>⟨[.string (ByteArray.mk #[])],List.replicate n (.string (ByteArray.mk #[])),rfl,⟨rfl,by show (0:Nat)<_;decide⟩,Akm n⟩
section
variable{C:Ctx}{e:Env}{ds:List Deferred}{ρ:Ro}{σ:Own}{K:Value→List Deferred→Ro→Own→Prop}{rd:Option Nat}{dd:Option Tmp}
variable{ty:TypeId}{pos:String}{af:Array Edge}{g:Option (Nat×Bool)}{x y:Operand}{t:TypeId}
theorem Anm{el:TypeId}{ti:TypeInfo}{n:Nat}(hT:C.P.underlying t=some (.slice el))(hi:C.P.info? el=some ti)(hik:ti.size=1)(hib:ti.bytes≤1000)(hz:ti.zero=some (.string (ByteArray.mk #[])))
  (hx:Af e x = .int .i64 (n:Int)) (hy:Af e y = .int .i64 (n:Int)) (hn:n<1073741824) (h:∀v gr,Grow ρ el v (List.replicate n (ByteArray.mk #[])) gr→K v ds ρ (gr++σ)) :
  wpS C.P ρ (execOp (Af e) ⟨dd,.makeSlice t x y,ty,pos,af,g⟩) σ (NextH C K rd ds ρ) :=
 Akt hT hi hik hib hz rfl hx hy hn fun r=>h _ [_] ⟨fun p hp=>by rw[Jd.1 hp];exact⟨_,rfl⟩,by rw[Aiw];omega,.inr ⟨r,n,List.replicate n (.string (ByteArray.mk #[])),[],[],by rw[Aiw],by rw[Jt],Akm n,by rw[Jt,Aiw];exact(Acv n).symm,by rw[Aiw];exact Dp _⟩⟩
end
end
section
open Go
/-- Without a line feed at the end. -/
def Ay(p:List UInt8):List UInt8:=if (p.drop (p.length-1)==[10])=true then p.take (p.length-1) else p
theorem Bcs{c:UInt8}(h:([32]:List UInt8)[0]?=some c):c=32:=by simpa using h.symm
variable{mn:Bool}{X:Frame→List Frame→Ro→Own→Cy→Prop}{ρ:Ro}{σ:Own}
theorem Ahi{p:List UInt8}(hb:p.length≤60000):CallsH (CX mn X) 144 #[.string (bs p),.string (bs ([10]:List UInt8))] ρ σ (rP ρ σ (.bool (p.drop (p.length-1)==[10]))):=by
 refine Ba 21 [4] Tryz.func144 rfl fun Q b i=>w_q rfl rfl fun f d=>Av bF (Arx rfl rfl d fun g c=>Au (.string (bs p)) (l_v (Ce Biy (p:=p) rfl) (Au (.string (bs ([10]:List UInt8))) (l_v (Ce Biy (p:=([10]:List UInt8)) rfl) (l_v (Uy rfl rfl) (Au (.bool (decide ((p.length:Int)≥1))) (Cn (decide ((p.length:Int)≥1)) (fun a=>?_) (fun a=>?_))))))))
 ·have e:=Ee a
  refine l_M (.string (bs p)) (gY rfl a) rfl (l_M (.string (bs p)) (gY rfl a) rfl (Aa (gY rfl a) (Ce Biy (p:=p) rfl) (l_M (.string (bs ([10]:List UInt8))) (gY rfl a) rfl (Aa (gY rfl a) (Ce Biy (p:=([10]:List UInt8)) rfl) (Aa (gY rfl a) (Ou (p:=(p.length:Int)) (q:=1) rfl rfl (z:=(((p.length-1):Nat):Int)) (Bo (by omega) (by omega) (by omega))) (Aa (gY rfl a) (Pp (p:=p) (l:=p.length-1) (h:=p.length) Biy rfl (.inr ⟨_,rfl,rfl⟩) (.inl ⟨rfl,rfl⟩) (by omega) (by omega)) (l_M (.string (bs ([10]:List UInt8))) (gY rfl a) rfl (Aa (gY rfl a) (Tq (p:=(p.take p.length).drop (p.length-1)) (q:=([10]:List UInt8)) rfl rfl) (l_v (Bt rfl a (v:=.bool ((((p.take p.length).drop (p.length-1)))==([10]:List UInt8))) rfl) (Av (.bool ((((p.take p.length).drop (p.length-1)))==([10]:List UInt8))) (l_k c (Aq (b ⟨rfl,rfl,eT (.bool ((((p.take p.length).drop (p.length-1)))==([10]:List UInt8))) ?_⟩)))))))))))))
  rw[Qs]
 have e:=Fv a
 refine Ap (gN rfl a) (Ap (gN rfl a) (Ap (gN rfl a) (Ap (gN rfl a) (Ap (gN rfl a) (Ap (gN rfl a) (Ap (gN rfl a) (Ap (gN rfl a) (Ap (gN rfl a) (l_v (Bn rfl a (v:=bF) rfl) (Av bF (l_k c (Aq (b (rT bF ?_))))))))))))))
 have hp:p=[]:=Za (by omega)
 subst hp;rfl
theorem Xq{p:List UInt8}{c:UInt8} :CallsH (CX mn X) 108 #[.string (bs p),.int .u8 (c.toNat:Int)] ρ σ (rP ρ σ (iV (Ii c p))):=by
 refine Ba 8 [4] Tryz.func108 rfl fun Q a g=>w_q rfl rfl fun e b=>Av (iV 0) (Arx rfl rfl b fun f d=>Au (.string (bs p)) (Au (.int .u8 (c.toNat:Int)) (Ams rfl Tryz.func143 rfl rfl rfl rfl (Bco rfl rfl) (Bab (p:=p) (c:=c)) (Av (iV (Ii c p)) (l_k d (Aq (a (rT (iV (Ii c p)) ?_))))))))
 rfl
theorem Aqn{p:List UInt8}{c:UInt8} :CallsH (CX mn X) 56 #[.string (bs p),.int .u8 (c.toNat:Int)] ρ σ (rP ρ σ (iV (Ii c p))):=by
 refine Ba 8 [4] Tryz.func56 rfl fun Q a g=>w_q rfl rfl fun e b=>Av (iV 0) (Arx rfl rfl b fun f d=>Au (.string (bs p)) (Au (.int .u8 (c.toNat:Int)) (Arv (Hr (Xq (p:=p) (c:=c)) Tryz.func108 ?_))))
 refine Av (iV (Ii c p)) (l_k d (Aq (a (rT (iV (Ii c p)) ?_))))
 rfl
theorem Azg{p:List UInt8} :CallsH (CX mn X) 218 #[.string (bs p),.string (bs ([32]:List UInt8))] ρ σ (rP ρ σ (iV (Ii 32 p))):=by
 refine Ba 143 [4] Tryz.func218 rfl fun Q e D=>w_q rfl rfl fun u f=>Av (iV 0) (Arx rfl rfl f fun w g=>Au (.string (bs ([32]:List UInt8))) (l_v (Ce Biy (p:=([32]:List UInt8)) rfl) (Av (iV 1) (Asa g fun x F=>Ao (w_q rfl rfl fun y h=>Au (iV 1) (l_v (Ek rfl rfl) (Au bF (l_M (.string (bs ([32]:List UInt8))) (gY rfl rfl) rfl (l_M (.string (bs p)) (gY rfl rfl) rfl (Aa (gY rfl rfl) (Tq (p:=([32]:List UInt8)) (q:=p) rfl rfl) (l_v (Bn rfl rfl (v:=.bool ((([32]:List UInt8))==p)) rfl) (Av (.bool ((([32]:List UInt8))==p)) (l_k h (Bp (t:=(([32]:List UInt8))==p) rfl (fun b=>?_) (fun b=>?_)))))))))))))))
 ·have n:=Jr b
  refine w_q rfl rfl fun z j=>Av (iV 0) (l_k j (Aq (e (rT (iV 0) ?_))))
  have hp:=eq_of_beq b
  rw[←hp];rfl
 have n:=Jq b
 refine w_q rfl rfl fun B k=>Au (iV 1) (l_v (Ek rfl rfl) (Av bT (l_k k (Co rfl rfl (w_q rfl rfl fun C m=>Au (.string (bs p)) (Au (.string (bs ([32]:List UInt8))) ?_))))))
 obtain⟨a,d⟩:=Yl (p:=([32]:List UInt8)) (i:=0) (by decide)
 have E:=a.toNat_lt
 refine l_v (Fs (p:=([32]:List UInt8)) 0 a Biy rfl (q:=0) rfl rfl d) (Arv (Hr (Xq (p:=p) (c:=a)) Tryz.func108 ?_))
 refine Av (iV (Ii a p)) (l_k m (Aq (e (rT (iV (Ii a p)) ?_))))
 rw[Bcs d]
theorem Bdd{p:List UInt8} :CallsH (CX mn X) 180 #[.string (bs p),.string (bs ([32]:List UInt8))] ρ σ (rP ρ σ (iV (Ii 32 p))):=by
 refine Ba 8 [4] Tryz.func180 rfl fun Q a f=>w_q rfl rfl fun d b=>Av (iV 0) (Arx rfl rfl b fun e c=>Au (.string (bs p)) (Au (.string (bs ([32]:List UInt8))) (Arv (Hr (Azg (p:=p)) Tryz.func218 ?_))))
 refine Av (iV (Ii 32 p)) (l_k c (Aq (a (rT (iV (Ii 32 p)) ?_))))
 rfl
theorem Azf{p:List UInt8}{m:Nat}(h:Ii 32 p=(m:Int)):CallsH (CX mn X) 180 #[.string (bs p),.string (bs ([32]:List UInt8))] ρ σ (rP ρ σ (iV m)):=by
 rw[←h];exact Bdd
theorem Aze{p:List UInt8} :CallsH (CX mn X) 179 #[.string (bs p),.string (bs ([32]:List UInt8))] ρ σ (rP ρ σ (iV (p.count 32:Nat))):=by
 refine Ba 34 [4] Tryz.func179 rfl fun Q d w=>w_q rfl rfl fun k e=>Av (iV 0) (Ary rfl rfl e fun m n f g=>Au (.string (bs ([32]:List UInt8))) (l_v (Ce Biy (p:=([32]:List UInt8)) rfl) (l_v (Ek rfl rfl) (l_k g (Cg rfl rfl (Al (kk f ?_)))))))
 refine Asb rfl rfl fun t u y h=>Au (.string (bs ([32]:List UInt8))) (l_v (Ce Biy (p:=([32]:List UInt8)) rfl) (l_v (Ek rfl rfl) (l_k h (Co rfl rfl (w_q rfl rfl fun v j=>Au (.string (bs p)) (Au (.string (bs ([32]:List UInt8))) ?_))))))
 obtain⟨a,b⟩:=Yl (p:=([32]:List UInt8)) (i:=0) (by decide)
 have x:=a.toNat_lt
 refine l_v (Fs (p:=([32]:List UInt8)) 0 a Biy rfl (q:=0) rfl rfl b) (Ams rfl Tryz.func217 rfl rfl rfl rfl (Bco rfl rfl) (Baa (p:=p) (c:=a)) (Av (iV ((p.count a):Nat)) (l_k j (Aq (d (rT (iV ((p.count a):Nat)) ?_))))))
 rw[Bcs b]
theorem Alj{p:List UInt8}(hb:p.length≤60000):CallsH (CX mn X) 131 #[.string (bs p),.string (bs ([32]:List UInt8)),iV 0,iV (-1)] ρ σ (fun w ρ' σ'=>Ro.le ρ ρ'∧σ'=σ∧Val ρ' w (bw (Bv p):List ByteArray)):=by
 have hcl:=Bdj (s:=p) (c:=32)
 have hsl:=Adt (s:=p)
 refine Ba 66 [8] Tryz.func131 rfl fun Q P ao=>w_q rfl rfl fun K1 R=>Av nS (Ary rfl rfl R fun K2 K3 k2 k3=>Au (iV (-1)) (l_v (Ek rfl rfl) (l_k k3 (Cg rfl rfl (Al (kk k2 ?_))))))
 refine Asb rfl rfl fun K4 K5 k4 k5=>Au (.string (bs ([32]:List UInt8))) (l_v (Tq (p:=([32]:List UInt8)) (q:=([]:List UInt8)) rfl rfl) (l_k k5 (Cg rfl (by decide) (Al (kk k4 ?_)))))
 refine Asb rfl rfl fun K6 K7 k6 k7=>Au (iV (-1)) (l_v (Da rfl rfl) (l_k k7 (Co rfl rfl (Ag rfl rfl (Au (.string (bs p)) (Au (.string (bs ([32]:List UInt8))) (Arv (Hr (Aze (p:=p)) Tryz.func179 ?_))))))))
 refine l_v (Mb ((((p.count 32)+1):Nat):Int)) (Av (iV ((((p.count 32)+1):Nat):Int)) (Arx rfl rfl k6 fun K8 k8=>Au (iV ((((p.count 32)+1):Nat):Int)) (Au (.string (bs p)) (l_v (Ce Biy (p:=p) rfl) (l_v (Mb (((p.length+1):Nat):Int)) (l_v (Bfy (r:=0+(p.count 32+1)) (by omega) rfl rfl) ?_))))))
 obtain⟨n,hn_⟩:∃z:Nat,z=(0+(p.count 32+1)):=⟨_,rfl⟩
 refine l_v (Cp (v:=iV n) ((show _=Value.int .i64 ((((0+(p.count 32+1))):Nat):Int) from rfl).trans (by rw[hn_]))) ?_
 have hnL:n=(Bv p).length:=by omega
 refine Arx rfl rfl k8 fun K9 k9=>Au (iV n) (Arv (Anm (n:=n) Biz (Ab Bjn) rfl nL rfl rfl rfl (by omega) fun C I E=>?_))
 refine Av C (Arx rfl rfl k9 fun a9 T=>Au (iV n) (l_v (Ou (p:=(n:Int)) (q:=1) rfl rfl (z:=(((n-1):Nat):Int)) (Bo (by omega) (by omega) (by omega))) (Av (iV ((n-1):Nat)) (Arx rfl rfl T fun aa U=>Av (iV 0) (Asa U fun ab V=>Ao (Cc (fun mm ee dd ρ' σ'=>∃(i:Nat) (s:List UInt8) (a:Value) (d:Own),(n-i)=mm∧[]=dd∧Ro.le ρ ρ'∧(d++σ)=σ'∧ee 1=(.string (bs ([32]:List UInt8)))∧ee 2=iV 0∧ee 3=(iV ((n-1):Nat))∧ee 0=(.string (bs s))∧ee 9=a∧ee 10=iV i∧(i+1≤n)∧((Bv p).drop i=Bv s)∧(s.length≤60000)∧Grow ρ' 9 a (spW (Bv p) i) d∧True) (m:=_) ⟨0,p,C,I,rfl,rfl,Bjy,rfl,rfl,rfl,rfl,rfl,rfl,rfl,(by omega),(by rw[Wi]),hb,Fy (Bhl hnL) E,trivial⟩ ?_))))))
 rintro aq al _ av _ ⟨i,s,a,d,rfl,rfl,y,rfl,k,u,x,g,j,b,ar,B,au,e,_⟩
 have ap:=En (L:=Bv p) (i:=i) (by omega)
 refine Asb rfl rfl fun ac ad W Y=>l_v (Ah (v:=iV i) b) (l_v (Ah (v:=iV ((n-1):Nat)) x) (l_v (Da rfl rfl) (l_k Y (Bp (t:=decide ((i:Int)<(((n-1):Nat):Int))) rfl (fun f=>?_) (fun f=>?_)))))
 ·obtain⟨m,M,an,N,O⟩:=Ani B (by have:=Ee f;omega)
  have a7:=Ee f
  refine Al (kk W ?_)
  refine Ao (w_q rfl rfl fun ae Z=>l_v (Ah (v:=.string (bs s)) g) (l_v (Ah (v:=.string (bs ([32]:List UInt8))) k) (Arv (Hr (Azf (p:=s) M) Tryz.func180 ?_))))
  refine Av (iV m) (Ary rfl rfl Z fun af ag a0 a1=>Au (iV m) (l_v (Da rfl rfl) (l_k a1 (Cg rfl (Sq (by omega)) (Al (kk a0 ?_))))))
  refine w_q rfl rfl fun ah a2=>l_v (Ah (v:=a) j) (l_v (Ah (v:=iV i) b) (l_v (Ah (v:=.string (bs s)) g) (Au (iV m) (l_v (Ah (v:=iV 0) u) (l_v (Mb (((m+0):Nat):Int)) (l_v (Pp (p:=s) (l:=0) (h:=m+0) Biy rfl (.inl ⟨rfl,rfl⟩) (.inr ⟨_,rfl,rfl⟩) (by first|omega|(rw[En (by omega)];omega)|(simp only[Ox];rw[En (by omega)];omega)) (by first|omega|(rw[En (by omega)];omega)|(simp only[Ox];rw[En (by omega)];omega))) (l_v (Nw i Biz ty9.info rfl e (q:=(i:Int)) rfl rfl (by first|omega|(rw[En (by omega)];omega)|(simp only[Ox];rw[En (by omega)];omega)) rfl) (Cx rfl (Aku (σ:=σ) (gr:=d) (i:=i) (v:=a) (w:=.string (bs ((s.take (m+0)).drop 0))) ty9.info rfl rfl rfl (Ank (l:=(s.take (m+0)).drop 0) (by first|omega|(simp only[Fc,Er];omega))) e (by rw[En (by omega)];omega) fun J F=>?_)))))))))
  refine Arx rfl rfl a2 fun ai a3=>l_v (Ah (v:=.string (bs s)) g) (Au (iV m) (l_v (Ah (v:=.string (bs ([32]:List UInt8))) k) (l_v (Ce Biy (p:=([32]:List UInt8)) rfl) (l_v (Mb (((m+1):Nat):Int)) (l_v (Pp (p:=s) (l:=m+1) (h:=s.length) Biy rfl (.inr ⟨_,rfl,rfl⟩) (.inl ⟨rfl,rfl⟩) (by first|omega|(rw[En (by omega)];omega)|(simp only[Ox];rw[En (by omega)];omega)) (by first|omega|(rw[En (by omega)];omega)|(simp only[Ox];rw[En (by omega)];omega))) (Av (.string (bs ((s.take s.length).drop (m+1)))) (l_k a3 (Ag rfl rfl (l_v (Ah (v:=iV i) b) (l_v (Mb (((i+1):Nat):Int)) (Av (iV ((i+1):Nat)) (Ac ?_))))))))))))
  refine⟨_,?_,(i+1),((s.take s.length).drop (m+1)),a,J,rfl,rfl,y,rfl,k,u,x,rfl,j,rfl,(by omega),(by have:=O;simpa using this),(by simp only[Fc,Er];omega),(Fy (App N) F),trivial⟩
  omega
 have a7:=Fv f
 refine Bx (kk V ?_)
 refine Ai fun aj a4=>?_
 have K:=Anh B (by omega)
 refine Ag rfl rfl (l_v (Ah (v:=a) j) (l_v (Ah (v:=iV i) b) (l_v (Ah (v:=.string (bs s)) g) (l_v (Nw i Biz ty9.info rfl e (q:=(i:Int)) rfl rfl (by first|omega|(rw[En (by omega)];omega)|(simp only[Ox];rw[En (by omega)];omega)) rfl) (Cx rfl (Aku (σ:=σ) (gr:=d) (i:=i) (v:=a) (w:=.string (bs s)) ty9.info rfl rfl rfl (Ank (l:=s) (by first|omega|(simp only[Fc,Er];omega))) e (by rw[En (by omega)];omega) fun am G=>?_))))))
 refine Arx rfl rfl a4 fun ak a5=>l_v (Ah (v:=a) j) (l_v (Ah (v:=iV i) b) (l_v (Mb (((i+1):Nat):Int)) (Arw (Ans (i+1) Biz ty9.2 rfl G rfl rfl (by first|omega|(rw[En (by omega)];omega)|(simp only[Ox];rw[En (by omega)];omega))) fun D H=>Av D (l_k a5 (Hc H fun aw a6 a8=>Aq (P ⟨Ro.le.trans y a6,rfl,Abz (v:=D) rfl (Val.cast ?_ a8)⟩))))))
 ·rw[App K,Bbt (by omega)]
theorem Azi{p:List UInt8}(hb:p.length≤60000):CallsH (CX mn X) 102 #[.string (bs p),.string (bs ([32]:List UInt8))] ρ σ (fun w ρ' σ'=>Ro.le ρ ρ'∧σ'=σ∧Val ρ' w (bw (Bv p):List ByteArray)):=by
 refine Ba 8 [4] Tryz.func102 rfl fun Q d k=>w_q rfl rfl fun i e=>Av nS (Arx rfl rfl e fun j f=>Au (.string (bs p)) (Au (.string (bs ([32]:List UInt8))) (Arv (Cm (vs:=[.string (bs p),.string (bs ([32]:List UInt8)),iV 0,iV (-1)]) (Alj (p:=p) (by omega)) Tryz.func131 rfl rfl ⟨rfl,rfl,rfl,rfl,trivial⟩ fun b m n c=>?_))))
 obtain⟨g,a,h⟩:=c
 replace a:=a.symm;subst a
 refine Av b (l_k f (Aq (d ⟨g,rfl,Abz (v:=b) rfl (Val.cast ?_ h)⟩)))
 ·rfl
end
section
open Go
def dgT(i:Nat):List Bool:=(List.range 256).map fun k=>decide (48≤k)&&decide (k<48+i)
theorem Bgm:List.replicate 256 false=dgT 0:=by
 have:(List.replicate 256 false==dgT 0)=true:=by decide +kernel
 exact eq_of_beq this
theorem Azq{i:Nat}(h:i<10):(dgT i).set (48+i) true=dgT (i+1):=by
 have key:(List.range 10).all (fun i=>(dgT i).set (48+i) true==dgT (i+1))=true:=by decide +kernel
 exact eq_of_beq (Gn.1 key i (Acr.2 h))
theorem Azp{i:Nat}:(dgT i).length=256:=by unfold dgT;simp
theorem Azo{c:UInt8}:(dgT 10)[c.toNat]?=some (Dm c):=by
 have hc:=c.toNat_lt
 unfold dgT Dm
 rw[Mg,Aoo (by omega)]
 simp only[Ze]
 congr 2
 rw[decide_eq_decide];omega
theorem Ayr:Fw Tryz.prog 272 (.agg ((List.replicate 256 false).map Value.bool).toArray):=⟨_,Ab Bjo,by kernel_rfl⟩
def trR(p:List UInt8):List UInt8:=(p.reverse.dropWhile Dm).reverse
def trL(p:List UInt8):List UInt8:=p.dropWhile Dm
def Mx(p:List UInt8):List UInt8:=trL (trR p)
theorem Rn{s:List UInt8}{c:UInt8}(h:s[s.length-1]?=some c):s=s.take (s.length-1)++[c]:=by
 have hl:=(lZ8.1 h).1
 have:=Vc h
 rw[show s.length-1+1=s.length by omega,Qs]at this
 exact this
theorem Ayf{s:List UInt8}{c:UInt8}(h:s[s.length-1]?=some c)(hd:Dm c=true):trR (s.take (s.length-1))=trR s:=by
 conv=>rhs;rw[Rn h]
 unfold trR
 rw[List.reverse_append]
 show _=(List.dropWhile Dm (c::(s.take (s.length-1)).reverse)).reverse
 rw[Arj,if_pos hd]
theorem Ayg{s:List UInt8}{c:UInt8}(h:s[s.length-1]?=some c)(hd:Dm c=false):trR s=s:=by
 conv=>lhs;rw[Rn h]
 unfold trR
 rw[List.reverse_append]
 show (List.dropWhile Dm (c::(s.take (s.length-1)).reverse)).reverse=_
 rw[Arj,if_neg (by simp[hd]),List.reverse_cons,List.reverse_reverse]
 exact(Rn h).symm
theorem Bby{s:List UInt8}(h:s.length=0):trR s=s:=by
 rw[Za h];rfl
theorem Ayd{s:List UInt8}{c:UInt8}(h:s[0]?=some c)(hd:Dm c=true):trL (s.drop 1)=trL s:=by
 cases s with
 | nil=>cases h
 | cons x r =>
  obtain rfl:x=c:=by simpa using h
  show trL r=List.dropWhile Dm (x::r)
  rw[Arj,if_pos hd];rfl
theorem Aye{s:List UInt8}{c:UInt8}(h:s[0]?=some c)(hd:Dm c=false):trL s=s:=by
 cases s with
 | nil=>cases h
 | cons x r =>
  obtain rfl:x=c:=by simpa using h
  show List.dropWhile Dm (x::r)=_
  rw[Arj,if_neg (by simp[hd])]
theorem Bbx{s:List UInt8}(h:s.length=0):trL s=s:=by
 rw[Za h];rfl
theorem Bfr{p:List UInt8}:(trR p).length≤p.length:=by
 unfold trR
 rw[List.length_reverse]
 exact Jm (List.dropWhile_sublist _).length_le (by rw[List.length_reverse];exact Dp _)
theorem Aby:∀{p:List UInt8},p.all Dm=true→p.dropWhile Dm=[]
 | [],_=>rfl
 | x::r,h=>by
  rw[Yt,Gm]at h
  rw[Arj,if_pos h.1];exact Aby h.2
theorem Tz:∀{p:List UInt8},p.all Dm=false→∃c r,p.dropWhile Dm=c::r∧Dm c=false
 | [],h=>by cases h
 | x::r,h=>by
  rw[Arj]
  by_cases hx:Dm x=true
  ·rw[if_pos hx]
   exact Tz (by rw[Yt,hx,Bool.true_and]at h;exact h)
  ·rw[if_neg hx];exact⟨x,r,rfl,by simpa using hx⟩
theorem Tl{p:List UInt8}:(Mx p != []) = !(p.all Dm):=by
 cases h:p.all Dm with
 | true =>
  have:trR p=[]:=by
   unfold trR;rw[Aby (by rw[List.all_reverse];exact h)];rfl
  unfold Mx;rw[this];rfl
 | false =>
  obtain⟨c,r,a,b⟩:=Tz (p:=p.reverse) (by rw[List.all_reverse];exact h)
  have e:trR p=r.reverse++[c]:=by unfold trR;rw[a,List.reverse_cons]
  have d:(trR p).all Dm=false:=by rw[e,Acq];simp[b]
  obtain⟨c',r',f,g⟩:=Tz d
  have:Mx p=c'::r':=f
  rw[this];rfl
def Cf(s:List UInt8):List UInt8:=if (s.take 1==[45])=true then s.drop 1 else s
theorem Atu{s:List UInt8}:(Cf s).length≤s.length:=by
 unfold Cf;split
 ·rw[Fc];omega
 ·exact Dp _
theorem Att{s:List UInt8}(h:s≠[45]):Cf s=Hj s:=by
 unfold Cf Hj Lz
 match s with
 | []=>rfl
 | [x] =>
  have hx:x≠45:=fun e=>h (by rw[e])
  simp[hx]
 | x::y::r=>by_cases hx:x=45<;>simp[hx]
theorem Ww{s:List UInt8}:Ho s=(decide (1≤(Cf s).length)&&decide ((Cf s).length≤9)&&(Cf s).all Dm && !((Cf s).head?==some 48 && !(s==[48]))):=by
 by_cases h:s=[45]
 ·subst h;decide
 ·rw[Att h];rfl
theorem Bei{s:List UInt8}(h:¬(1≤(Cf s).length∧(Cf s).length≤9)):Ho s=false:=by
 rw[Ww]
 by_cases h1:1≤(Cf s).length
 ·rw[Sq (p:=(Cf s).length≤9) (fun a=>h ⟨h1,a⟩)];simp
 ·rw[Sq h1];simp
theorem Bej{s:List UInt8}(h:(Cf s).all Dm=false):Ho s=false:=by rw[Ww,h];simp
theorem Bek{s:List UInt8}{c:UInt8}(h:(Cf s)[0]?=some c)(hc:c=48)(hs:s≠[48]):Ho s=false:=by
 rw[Ww]
 cases hb:Cf s with
 | nil=>rw[hb]at h;cases h
 | cons x r =>
  rw[hb]at h
  obtain rfl:x=c:=by simpa using h
  subst hc
  have:(s==[48])=false:=by simpa using hs
  rw[this];simp
theorem Bcp{s:List UInt8}{c:UInt8}(h1:1≤(Cf s).length)(h9:(Cf s).length≤9)(ha:(Cf s).all Dm=true)(h:(Cf s)[0]?=some c)(hz:c≠48∨s=[48]):Ho s=true:=by
 rw[Ww,Nl h1,Nl h9,ha]
 rcases hz with hz|hz
 ·cases hb:Cf s with
  | nil=>rw[hb]at h;cases h
  | cons x r =>
   rw[hb]at h
   obtain rfl:x=c:=by simpa using h
   simp[hz]
 ·subst hz;decide
theorem Adg{s:List UInt8}(h:Ho s=true):1≤(Hj s).length∧(Hj s).length≤9∧(Hj s).all Dm=true:=by
 unfold Ho at h
 simp only[Gm,decide_eq_true_eq]at h
 exact⟨h.1.1.1,h.1.1.2,h.1.2⟩
theorem Atv{s:List UInt8}:s.length≤(Hj s).length+1∧(Hj s).length≤s.length:=by
 unfold Hj;split
 ·rename_i h
  rw[Fc]
  unfold Lz at h
  simp at h;omega
 ·omega
theorem Beh{s:List UInt8}{c:UInt8}(h:Ho s=true)(hc:s[0]?=some c):(c=45∧Lz s=true)∨(48≤c.toNat∧c.toNat≤57∧Lz s=false):=by
 obtain⟨b,d,a⟩:=Adg h
 cases hm:Lz s with
 | true =>
  refine .inl ⟨?_,rfl⟩
  unfold Lz at hm
  cases s with
  | nil=>cases hc
  | cons x r =>
   obtain rfl:x=c:=by simpa using hc
   simp at hm;exact hm.2
 | false =>
  have hD:Hj s=s:=by unfold Hj;rw[hm];rfl
  rw[hD]at a
  have:=Gn.1 a c (lZ3 hc)
  unfold Dm at this
  simp at this
  exact .inr ⟨this.1,this.2,rfl⟩
theorem Afa{c:UInt8}(h:Dm c=true):48≤c.toNat∧c.toNat≤57:=by
 unfold Dm at h;simpa using h
theorem Atq{d:List UInt8}{i:Nat}{c:UInt8}(ha:d.all Dm=true)(h:d[i]?=some c):Dm c=true:=Gn.1 ha c (lZ3 h)
end
section
open Go
theorem Bgn{i:Nat}{c:UInt8}(h:bZ0[i]?=some c):i<10∧c.toNat=48+i:=by
 have hi:i<10:=(lZ8.1 h).1
 have key:(List.range 10).all (fun i=>(bZ0[i]?).all fun c=>c.toNat==48+i)=true:=by decide
 have:=Gn.1 key i (Acr.2 hi)
 rw[h]at this
 exact⟨hi,eq_of_beq this⟩
variable{mn:Bool}{X:Frame→List Frame→Ro→Own→Cy→Prop}{ρ:Ro}{σ:Own}
theorem Ahh{p:List UInt8}(hb:p.length≤60000):CallsH (CX mn X) 237 #[.string (bs p),.string (bs ([45]:List UInt8))] ρ σ (rP ρ σ (.bool (p.take 1==[45]))):=by
 refine Ba 18 [4] Tryz.func237 rfl fun Q b i=>w_q rfl rfl fun f d=>Av bF (Arx rfl rfl d fun g c=>Au (.string (bs p)) (l_v (Ce Biy (p:=p) rfl) (Au (.string (bs ([45]:List UInt8))) (l_v (Ce Biy (p:=([45]:List UInt8)) rfl) (l_v (Uy rfl rfl) (Au (.bool (decide ((p.length:Int)≥1))) (Cn (decide ((p.length:Int)≥1)) (fun a=>?_) (fun a=>?_))))))))
 ·have e:=Ee a
  refine l_M (.string (bs p)) (gY rfl a) rfl (l_M (.string (bs ([45]:List UInt8))) (gY rfl a) rfl (Aa (gY rfl a) (Ce Biy (p:=([45]:List UInt8)) rfl) (Aa (gY rfl a) (Pp (p:=p) (l:=0) (h:=1) Biy rfl (.inl ⟨rfl,rfl⟩) (.inr ⟨_,rfl,rfl⟩) (by omega) (by omega)) (l_M (.string (bs ([45]:List UInt8))) (gY rfl a) rfl (Aa (gY rfl a) (Tq (p:=(p.take 1).drop 0) (q:=([45]:List UInt8)) rfl rfl) (l_v (Bt rfl a (v:=.bool ((((p.take 1).drop 0))==([45]:List UInt8))) rfl) (Av (.bool ((((p.take 1).drop 0))==([45]:List UInt8))) (l_k c (Aq (b ⟨rfl,rfl,eT (.bool ((((p.take 1).drop 0))==([45]:List UInt8))) ?_⟩))))))))))
  rfl
 have e:=Fv a
 refine Ap (gN rfl a) (Ap (gN rfl a) (Ap (gN rfl a) (Ap (gN rfl a) (Ap (gN rfl a) (Ap (gN rfl a) (l_v (Bn rfl a (v:=bF) rfl) (Av bF (l_k c (Aq (b (rT bF ?_)))))))))))
 have hp:p=[]:=Za (by omega)
 subst hp;rfl
theorem Aqo{p:List UInt8}(hb:p.length≤60000):CallsH (CX mn X) 199 #[.string (bs p),.string (bs ([45]:List UInt8))] ρ σ (rP ρ σ (.string (bs (Cf p)))):=by
 refine Ba 13 [4] Tryz.func199 rfl fun Q b q=>w_q rfl rfl fun i c=>Av (.string (ByteArray.mk #[])) (Ary rfl rfl c fun j k d e=>Au (.string (bs p)) (Au (.string (bs ([45]:List UInt8))) (Arv (Hr (Ahh (p:=p) (by omega)) Tryz.func237 ?_))))
 refine l_k e (Bp (t:=p.take 1==[45]) rfl (fun a=>?_) (fun a=>?_))
 ·have u:1≤p.length:=by
   cases p with
   | nil=>exact absurd a (by decide)
   | cons=>simp
  refine w_q rfl rfl fun m f=>Au (.string (bs p)) (Au (.string (bs ([45]:List UInt8))) (l_v (Ce Biy (p:=([45]:List UInt8)) rfl) (l_v (Pp (p:=p) (l:=1) (h:=p.length) Biy rfl (.inr ⟨_,rfl,rfl⟩) (.inl ⟨rfl,rfl⟩) (by omega) (by omega)) (Av (.string (bs ((p.take p.length).drop 1))) (l_k f (Aq (b (rT (.string (bs ((p.take p.length).drop 1))) ?_))))))))
  unfold Cf;rw[a,Qs];rfl
 refine Al (kk d ?_)
 refine w_q rfl rfl fun n g=>Au (.string (bs p)) (Av (.string (bs p)) (l_k g (Aq (b (rT (.string (bs p)) ?_)))))
 unfold Cf;rw[a];rfl
theorem Ael{p:List UInt8}(hb:p.length≤60000):CallsH (CX mn X) 152 #[.string (bs p),.string (bs ([45]:List UInt8))] ρ σ (rP ρ σ (.string (bs (Cf p)))):=by
 refine Ba 8 [4] Tryz.func152 rfl fun Q a f=>w_q rfl rfl fun d b=>Av (.string (ByteArray.mk #[])) (Arx rfl rfl b fun e c=>Au (.string (bs p)) (Au (.string (bs ([45]:List UInt8))) (Arv (Hr (Aqo (p:=p) (by omega)) Tryz.func199 ?_))))
 refine Av (.string (bs (Cf p))) (l_k c (Aq (a (rT (.string (bs (Cf p))) ?_))))
 rfl
theorem Aqp  :CallsH (CX mn X) 147 #[.string (bs bZ0)] ρ σ (rP ρ σ (.tuple #[.agg ((dgT 10).map Value.bool).toArray,bT])):=by
 refine Lt (n:=21) (args:=[.string (bs bZ0)]) [.cell 2 272,.tmp 3] Tryz.func147 rfl rfl rfl rfl fun Q x a0=>w_q rfl rfl fun L z=>Arv (Ct Ayr fun w=>?_)
 refine Av bF (Ary rfl rfl z fun R T F G=>Av (iV 0) (l_k G (Ao (Cc (fun mm ee dd ρ' σ'=>∃(i:Nat) (b:List Bool),(10-i)=mm∧[]=dd∧ρ=ρ'∧((w,oC (b.map Value.bool).toArray 272)::σ)=σ'∧ee 0=(.string (bs bZ0))∧ee 2=pV w∧ee 4=iV i∧(i≤10)∧b=dgT i∧b.length=256∧True) (m:=_) ⟨0,List.replicate 256 false,rfl,rfl,rfl,rfl,rfl,rfl,rfl,Oc _,Bgm,Aiw,trivial⟩ ?_))))
 rintro m5 Y _ _ _ ⟨i,b,rfl,rfl,rfl,rfl,g,d,h,a2,k,c,_⟩
 refine Asb rfl rfl fun U V H I=>l_v (Ah (v:=iV i) h) (l_v (Ah (v:=.string (bs bZ0)) g) (l_v (Ce Biy (p:=bZ0) rfl) (l_v (Da rfl rfl) (l_k I (Bp (t:=decide ((i:Int)<10)) rfl (fun e=>?_) (fun e=>?_))))))
 ·have K:=Ee e
  refine Al (kk H ?_)
  refine Ai fun W J=>Ao (w_q rfl rfl fun M B=>l_v (Ah (v:=.string (bs bZ0)) g) (l_v (Ah (v:=iV i) h) ?_))
  obtain⟨a,u⟩:=Yl (p:=bZ0) (i:=i) (by first|omega|(show _<10;omega))
  have a1:=a.toNat_lt
  obtain⟨Z,y⟩:=Bgn u
  refine l_v (Fs (p:=bZ0) i a Biy rfl (q:=(i:Int)) rfl rfl u) (Av (.int .u8 (a.toNat:Int)) (Ary rfl rfl B fun N O C D=>Au (.int .u8 (a.toNat:Int)) (l_v (Uy rfl rfl) (l_k D (Cg rfl (Sq (by omega)) (Al (kk C ?_)))))))
  refine Ag rfl rfl (Au (.int .u8 (a.toNat:Int)) (l_v (Cq (k':=1) a.toNat Bjq ⟨_,Ab Tryz.typeInfo4,rfl⟩ d (q:=(a.toNat:Int)) rfl rfl (by first|omega|(show _<10;omega)) (off':=a.toNat) (by omega)) (Cx rfl (Zx (j:=0) (f:=Value.bool) (i:=a.toNat) (bv:=true) ⟨_,Ab Tryz.typeInfo4,rfl⟩ rfl rfl rfl rfl (by rw[c];omega) ?_))))
  refine l_k J (Ag rfl rfl (l_v (Ah (v:=iV i) h) (l_v (Mb (((i+1):Nat):Int)) (Av (iV ((i+1):Nat)) (Ac ?_)))))
  refine⟨_,?_,(i+1),(b.set a.toNat true),rfl,rfl,rfl,rfl,g,d,rfl,(by omega),(by rw[k,y];exact Azq (by omega)),(List.length_set.trans c),trivial⟩
  omega
 have K:=Fv e
 refine Bx (kk F ?_)
 refine w_q rfl rfl fun P E=>Arv (Afr (i:=0) (f:=Value.bool) (xs:=b) ⟨_,Bjq,rfl⟩ ⟨_,Ab Bjo,rfl⟩ d rfl c ?_)
 refine Cx rfl (Acb (i:=0) (f:=Value.bool) (xs:=b) (ys:=b) ⟨_,Ab Bjo,rfl⟩ d rfl (fun _=>rfl) rfl c c ?_)
 refine Av bT (l_k E (Aq (x _ _ _ _ _ [.agg (b.map Value.bool).toArray,bT] ⟨Qh ⟨_,Bjq,rfl⟩ ⟨_,Ab Bjo,rfl⟩ d (i:=0) rfl (by simp[c];try rfl),rfl,trivial⟩ Ghost.drop (rT (.tuple #[.agg (b.map Value.bool).toArray,bT]) ?_))))
 rw[k,show i=10 by omega]
theorem Xy{r:Nat}{c:UInt8} :CallsH (CX mn X) 195 #[pV r,.int .u8 (c.toNat:Int)] ρ ((r,oC (((dgT 10)).map Value.bool).toArray 272)::σ) (fun w ρ' σ'=>ρ'=ρ∧σ'=(r,oC ((dgT 10).map Value.bool).toArray 272)::σ∧w = .bool (Dm c)):=by
 have hcl:=c.toNat_lt
 refine Ba 10 [4] Tryz.func195 rfl fun Q a h=>w_q rfl rfl fun e b=>Av bF (Arx rfl rfl b fun g d=>Au (pV r) (Au (.int .u8 (c.toNat:Int)) (l_v (Ck rfl) (l_v (Cq (k':=1) c.toNat Bjq ⟨_,Ab Tryz.typeInfo4,rfl⟩ rfl (q:=(c.toNat:Int)) rfl rfl (by omega) (off':=c.toNat) (by omega)) (Arv (Adu (j:=0) (f:=Value.bool) (i:=c.toNat) (bv:=Dm c) ⟨_,Tryz.underlying4,rfl⟩ rfl rfl Azo ?_))))))
 refine Av (.bool (Dm c)) (l_k d (Aq (a (rT (.bool (Dm c)) ?_))))
 rfl
theorem Azk{r:Nat}{p:List UInt8}(hb:p.length≤60000):CallsH (CX mn X) 148 #[.string (bs p),pV r] ρ ((r,oC (((dgT 10)).map Value.bool).toArray 272)::σ) (fun w ρ' σ'=>ρ'=ρ∧σ'=(r,oC ((dgT 10).map Value.bool).toArray 272)::σ∧w = .string (bs (trL p))):=by
 refine Ba 16 [4] Tryz.func148 rfl fun Q u W=>w_q rfl rfl fun L D=>Av (.string (ByteArray.mk #[])) (Asa D fun O x=>Ao (Cc (fun mm ee dd ρ' σ'=>∃(s:List UInt8),(s.length)=mm∧[]=dd∧ρ=ρ'∧((r,oC (((dgT 10)).map Value.bool).toArray 272)::σ)=σ'∧ee 1=pV r∧ee 0=(.string (bs s))∧(trL s=trL p)∧(s.length≤p.length)∧True) (m:=_) ⟨p,rfl,rfl,rfl,rfl,rfl,rfl,rfl,Dp _,trivial⟩ ?_))
 rintro Z V _ _ _ ⟨s,rfl,rfl,rfl,rfl,n,b,k,a0,_⟩
 refine Asb rfl rfl fun P R G H=>l_v (Ah (v:=.string (bs s)) b) (l_v (Ce Biy (p:=s) rfl) (l_v (Gl rfl rfl) (l_k H (Bp (t:=decide ((s.length:Int)>0)) rfl (fun e=>?_) (fun e=>?_)))))
 ·have K:=Ee e
  refine Al (kk G ?_)
  refine Ao (Asb rfl rfl fun T U I J=>l_v (Ah (v:=pV r) n) (l_v (Ah (v:=.string (bs s)) b) ?_))
  obtain⟨a,f⟩:=Yl (p:=s) (i:=0) (by omega)
  have Y:=a.toNat_lt
  refine l_v (Fs (p:=s) 0 a Biy rfl (q:=0) rfl rfl f) (Arv (Cm (vs:=[pV r,.int .u8 (a.toNat:Int)]) (Xy (r:=r) (c:=a)) Tryz.func195 rfl rfl ⟨rfl,rfl,trivial⟩ fun a1 a2 a3 B=>?_))
  obtain⟨g,j,C⟩:=B
  replace g:=g.symm;replace j:=j.symm;subst g j C
  refine l_v (Iy rfl) (l_k J (Bp (t:=!(Dm a)) rfl (fun d=>?_) (fun d=>?_)))
  ·have hdl:((s.take s.length).drop 1).length<s.length:=by simp only[Fc,Er];omega
   have y:=not_eq_t d
   have hdl:((s.take s.length).drop 1).length<s.length:=by simp only[Fc,Er];omega
   refine Bx (kk x ?_)
   refine w_q rfl rfl fun M E=>l_v (Ah (v:=.string (bs s)) b) (Av (.string (bs s)) (l_k E (Aq (u (rT (.string (bs s)) ?_)))))
   rw[←k,Aye f (by simpa using y)]
  have hdl:((s.take s.length).drop 1).length<s.length:=by simp only[Fc,Er];omega
  have z:=Jg d
  have hdl:((s.take s.length).drop 1).length<s.length:=by simp only[Fc,Er];omega
  refine Al (kk I ?_)
  refine Ag rfl rfl (l_v (Ah (v:=.string (bs s)) b) (l_v (Pp (p:=s) (l:=1) (h:=s.length) Biy rfl (.inr ⟨_,rfl,rfl⟩) (.inl ⟨rfl,rfl⟩) (by omega) (by omega)) (Av (.string (bs ((s.take s.length).drop 1))) (Ac ?_))))
  refine⟨_,?_,((s.take s.length).drop 1),rfl,rfl,rfl,rfl,n,rfl,(by have:=Ayd f (by simpa using z);rw[Qs];exact this.trans k),(by simp only[Fc,Er];omega),trivial⟩
  omega
 have K:=Fv e
 refine Bx (kk x ?_)
 refine w_q rfl rfl fun N F=>l_v (Ah (v:=.string (bs s)) b) (Av (.string (bs s)) (l_k F (Aq (u (rT (.string (bs s)) ?_)))))
 rw[←k,Bbx (by omega)]
theorem Azl{r:Nat}{p:List UInt8}(hb:p.length≤60000):CallsH (CX mn X) 149 #[.string (bs p),pV r] ρ ((r,oC (((dgT 10)).map Value.bool).toArray 272)::σ) (fun w ρ' σ'=>ρ'=ρ∧σ'=(r,oC ((dgT 10).map Value.bool).toArray 272)::σ∧w = .string (bs (trR p))):=by
 refine Ba 22 [4] Tryz.func149 rfl fun Q u Y=>w_q rfl rfl fun M E=>Av (.string (ByteArray.mk #[])) (Asa E fun P x=>Ao (Cc (fun mm ee dd ρ' σ'=>∃(s:List UInt8),(s.length)=mm∧[]=dd∧ρ=ρ'∧((r,oC (((dgT 10)).map Value.bool).toArray 272)::σ)=σ'∧ee 1=pV r∧ee 0=(.string (bs s))∧(trR s=trR p)∧(s.length≤p.length)∧True) (m:=_) ⟨p,rfl,rfl,rfl,rfl,rfl,rfl,rfl,Dp _,trivial⟩ ?_))
 rintro m3 W _ _ _ ⟨s,rfl,rfl,rfl,rfl,n,a,k,a0,_⟩
 refine Asb rfl rfl fun R T H I=>l_v (Ah (v:=.string (bs s)) a) (l_v (Ce Biy (p:=s) rfl) (l_v (Gl rfl rfl) (l_k I (Bp (t:=decide ((s.length:Int)>0)) rfl (fun e=>?_) (fun e=>?_)))))
 ·have L:=Ee e
  refine Al (kk H ?_)
  refine Ao (Asb rfl rfl fun U V J K=>l_v (Ah (v:=pV r) n) (l_v (Ah (v:=.string (bs s)) a) (l_v (Ah (v:=.string (bs s)) a) (l_v (Ce Biy (p:=s) rfl) (l_v (Ou rfl rfl (z:=(((s.length-1):Nat):Int)) (Bo (by omega) (by omega) (by omega))) ?_)))))
  obtain⟨b,f⟩:=Yl (p:=s) (i:=s.length-1) (by omega)
  have Z:=b.toNat_lt
  refine l_v (Fs (p:=s) (s.length-1) b Biy rfl (q:=(((s.length-1):Nat):Int)) rfl rfl f) (Arv (Cm (vs:=[pV r,.int .u8 (b.toNat:Int)]) (Xy (r:=r) (c:=b)) Tryz.func195 rfl rfl ⟨rfl,rfl,trivial⟩ fun a1 a2 a3 C=>?_))
  obtain⟨g,j,D⟩:=C
  replace g:=g.symm;replace j:=j.symm;subst g j D
  refine l_v (Iy rfl) (l_k K (Bp (t:=!(Dm b)) rfl (fun d=>?_) (fun d=>?_)))
  ·have hdl:((s.take (s.length-1)).drop 0).length<s.length:=by simp only[Fc,Er];omega
   have y:=not_eq_t d
   have hdl:((s.take (s.length-1)).drop 0).length<s.length:=by simp only[Fc,Er];omega
   refine Bx (kk x ?_)
   refine w_q rfl rfl fun N F=>l_v (Ah (v:=.string (bs s)) a) (Av (.string (bs s)) (l_k F (Aq (u (rT (.string (bs s)) ?_)))))
   rw[←k,Ayg f (by simpa using y)]
  have hdl:((s.take (s.length-1)).drop 0).length<s.length:=by simp only[Fc,Er];omega
  have B:=Jg d
  have hdl:((s.take (s.length-1)).drop 0).length<s.length:=by simp only[Fc,Er];omega
  refine Al (kk J ?_)
  refine Ag rfl rfl (l_v (Ah (v:=.string (bs s)) a) (l_v (Ah (v:=.string (bs s)) a) (l_v (Ce Biy (p:=s) rfl) (l_v (Ou rfl rfl (z:=(((s.length-1):Nat):Int)) (Bo (by omega) (by omega) (by omega))) (l_v (Pp (p:=s) (l:=0) (h:=s.length-1) Biy rfl (.inl ⟨rfl,rfl⟩) (.inr ⟨_,rfl,rfl⟩) (by omega) (by omega)) (Av (.string (bs ((s.take (s.length-1)).drop 0))) (Ac ?_)))))))
  refine⟨_,?_,((s.take (s.length-1)).drop 0),rfl,rfl,rfl,rfl,n,rfl,((Ayf f (by simpa using B)).trans k),(by simp only[Fc,Er];omega),trivial⟩
  omega
 have L:=Fv e
 refine Bx (kk x ?_)
 refine w_q rfl rfl fun O G=>l_v (Ah (v:=.string (bs s)) a) (Av (.string (bs s)) (l_k G (Aq (u (rT (.string (bs s)) ?_)))))
 rw[←k,Bby (by omega)]
theorem Auf{p:List UInt8}(hb:p.length≤60000):CallsH (CX mn X) 110 #[.string (bs p),.string (bs bZ0)] ρ σ (rP ρ σ (.string (bs (Mx p)))):=by
 refine Ba 43 [4] Tryz.func110 rfl fun Q h P=>w_q rfl rfl fun F u=>Av (.string (ByteArray.mk #[])) (Ary rfl rfl u fun I J y j=>Au (.string (bs p)) (l_v (Tq (p:=p) (q:=([]:List UInt8)) rfl rfl) (Au (.bool (p==([]:List UInt8))) (Cn (p==([]:List UInt8)) (fun a=>?_) (fun a=>?_)))))
 ·have E:=Jr a
  refine Ap (gN rfl a) (Ap (gN rfl a) (l_v (Bt rfl a (v:=bT) rfl) (l_k j (Co rfl rfl (w_q rfl rfl fun K z=>Au (.string (bs p)) (Av (.string (bs p)) (l_k z (Aq (h (rT (.string (bs p)) ?_))))))))))
  have hp:=eq_of_beq a
  subst hp;rfl
 have E:=Jq a
 refine l_M (.string (bs bZ0)) (gY rfl a) rfl (Aa (gY rfl a) (Tq (p:=bZ0) (q:=([]:List UInt8)) rfl rfl) (l_v (Bn rfl a (v:=.bool ((bZ0)==([]:List UInt8))) rfl) (l_k j (Cg rfl (by decide) (Al (kk y ?_))))))
 refine Asb rfl rfl fun L M B C=>Au (.string (bs bZ0)) (l_v (Ce Biy (p:=bZ0) rfl) (l_v (Ek rfl rfl) (Au bF (Ap (gN rfl rfl) (Ap (gN rfl rfl) (Ap (gN rfl rfl) (l_v (Bn rfl rfl (v:=bF) rfl) (l_k C (Cg rfl rfl (Al (kk B ?_)))))))))))
 refine Asb rfl rfl fun N O R D=>Au (.string (bs bZ0)) (Arv (Hr Aqp Tryz.func147 ?_))
 refine Au (.tuple #[.agg ((dgT 10).map Value.bool).toArray,bT]) (l_v (Nz (.agg ((dgT 10).map Value.bool).toArray)) (l_v (Nz bT) (Arv (Ct Ayr fun b=>?_))))
 refine Cx rfl (Acb (i:=0) (f:=Value.bool) (xs:=List.replicate 256 false) (ys:=dgT 10) ⟨_,Ab Bjo,rfl⟩ rfl rfl (fun _=>rfl) rfl Azp Aiw ?_)
 refine Av bT (Arx rfl rfl D fun G w=>Au bT (l_k w (Co rfl rfl (w_q rfl rfl fun H x=>Au (.string (bs p)) (Arv (Cm (vs:=[.string (bs p),pV b]) (Azl (r:=b) (p:=p) (by omega)) Tryz.func149 rfl rfl ⟨rfl,rfl,trivial⟩ fun T V Y k=>?_))))))
 obtain⟨c,e,n⟩:=k
 replace c:=c.symm;replace e:=e.symm;subst c e n
 refine Arv (Cm (vs:=[.string (bs (trR p)),pV b]) (Azk (r:=b) (p:=trR p) (Jm Bfr hb)) Tryz.func148 rfl rfl ⟨rfl,rfl,trivial⟩ fun U W Z m=>?_)
 obtain⟨d,g,t⟩:=m
 replace d:=d.symm;replace g:=g.symm;subst d g t
 refine Av (.string (bs (trL (trR p)))) (l_k x (Aj Ghost.drop (Aq (h (rT (.string (bs (trL (trR p)))) ?_)))))
 rfl
end
section
open Go
section
variable{P:Program}{ρ:Ro}{e:Env}{ty t t':TypeId}{x:Operand}{v:Value}{tt:TypeId}
theorem Aij{ρ':Ro}{σ:Own}{ms:Array (String×TypeId)}(hT:P.underlying t=some (.interface ms)){w:Value}{b:Bool}(hb:(w = .nilIface∧b=true)∨∃tt v,w = .iface tt v∧b=false){Q:Bool→Own→Prop}(h:Q b σ):wpS P ρ' (Op.equal t w .nilIface) σ Q:=by
 show wpS P ρ' ((underlying t).bind _) σ Q
 rw[Ad]
 refine Az hT ?_
 rcases hb with⟨rfl,rfl⟩|⟨tt,v,rfl,rfl⟩<;>exact h
theorem Aee{ms:Array (String×TypeId)}{w:Value}{b:Bool}(hT:P.underlying t=some (.interface ms))(hb:(w = .nilIface∧b=true)∨∃tt v,w = .iface tt v∧b=false)(hx:Af e x=w):Yld P ρ e (.binOp .eql t x (.const .nilIface) t') ty (.bool b) :=
 Mt (s:=(do eqGuard .eql t x (.const .nilIface) (Af e x) .nilIface;binOp .eql t (Af e x) .nilIface)) (fun _ _ _ _=>rfl) fun ρ' σ _=>by
  rw[hx]
  have hg:eqGuard .eql t x (.const .nilIface) w .nilIface=pure ():=by
   rcases hb with⟨rfl,-⟩|⟨tt,v,rfl,-⟩
   ·unfold eqGuard;simp
   ·rfl
  rw[hg]
  have a:binOp .eql t w .nilIface=(Op.equal t w .nilIface).bind fun b=>Sem.pure (.bool b):=by
   rcases hb with⟨rfl,-⟩|⟨tt,v,rfl,-⟩<;>rfl
  show wpS P ρ' (binOp .eql t w .nilIface) σ _
  rw[a,Ad]
  exact Aij hT hb ⟨rfl,rfl⟩
theorem Atl{ms:Array (String×TypeId)}{w:Value}{b:Bool}(hT:P.underlying t=some (.interface ms))(hb:(w = .nilIface∧b=true)∨∃tt v,w = .iface tt v∧b=false)(hx:Af e x=w):Yld P ρ e (.binOp .neq t x (.const .nilIface) t') ty (.bool (!b)) :=
 Mt (s:=(do eqGuard .neq t x (.const .nilIface) (Af e x) .nilIface;binOp .neq t (Af e x) .nilIface)) (fun _ _ _ _=>rfl) fun ρ' σ _=>by
  rw[hx]
  have hg:eqGuard .neq t x (.const .nilIface) w .nilIface=pure ():=by
   rcases hb with⟨rfl,-⟩|⟨tt,v,rfl,-⟩
   ·unfold eqGuard;simp
   ·rfl
  rw[hg]
  have a:binOp .neq t w .nilIface=(Op.equal t w .nilIface).bind fun b=>Sem.pure (.bool (!b)):=by
   rcases hb with⟨rfl,-⟩|⟨tt,v,rfl,-⟩<;>rfl
  show wpS P ρ' (binOp .neq t w .nilIface) σ _
  rw[a,Ad]
  exact Aij hT hb ⟨rfl,rfl⟩
end
end
section
open Go
section
variable{mn:Bool}{X:Frame→List Frame→Ro→Own→Cy→Prop}{b:FB}{n:Nat}{e:Env}{ds:List Deferred}{ρ:Ro}{σ:Own}{K:Value→List Deferred→Ro→Own→Prop}{rd:Option Nat}{dd:Option Tmp}
variable{ty:TypeId}{pos:String}{af:Array Edge}{g:Option (Nat×Bool)}{x y z:Operand}{v v2 p:Value}{t t':TypeId}
theorem Bhq{P:Program}{e:Env}{ρ:Ro}{ty t:TypeId}{x:Operand}{k:IntKind}{p z:Int}(hx:Af e x = .int k p)(hz:k.wrap (0-p)=z):Yld P ρ e (.unOp .neg t x) ty (.int k z) :=
 Mt (s:=Op.unary .neg (Af e x)) (fun _ _ _ _=>rfl) fun ρ' σ _=>by rw[hx];subst hz;exact⟨rfl,rfl⟩
end
end
section
open Go
variable{mn:Bool}{X:Frame→List Frame→Ro→Own→Cy→Prop}{ρ:Ro}{σ:Own}
theorem Azd{s:List UInt8}(hz:Ho s=true):CallsH (CX mn X) 200 #[.string (bs s)] ρ σ (fun w ρ' σ'=>Ro.le ρ ρ'∧σ'=σ∧w = .tuple #[iV (Ie s),.nilIface]):=by
 obtain⟨W,Y,f⟩:=Adg hz
 obtain⟨cj,ck⟩:=Atv (s:=s)
 refine Ba 77 [2,3] Tryz.func200 rfl fun Q Z cg=>w_q rfl rfl fun K1 k1=>Av (iV 0) (Av .nilIface (Arx rfl rfl k1 fun K2 k2=>Au (.string (bs s)) (l_v (Ce Biy (p:=s) rfl) (Av (iV (s.length:Int)) (Ary rfl rfl k2 fun K3 K4 k3 k4=>Au bF (Ap (gN rfl rfl) (Ap (gN rfl rfl) (Ap (gN rfl rfl) (Ap (Jf rfl rfl rfl) (Ap (Jf rfl rfl rfl) (Ap (gN rfl rfl) (l_v (Bn rfl rfl (v:=bF) rfl) (Au bF (l_M bT (gY rfl rfl) rfl (l_M (iV (s.length:Int)) (gY rfl rfl) rfl (Aa (gY rfl rfl) (Da rfl rfl) (l_M (.bool (decide (0<(s.length:Int)))) (gY rfl rfl) rfl (l_M (iV (s.length:Int)) (gY rfl (Nl (by omega))) rfl (Aa (gY rfl (Nl (by omega))) (Da rfl rfl) (Aa (gY rfl rfl) (Bt rfl (Nl (by omega)) (v:=.bool (decide ((s.length:Int)<19))) rfl) (Aa (gY rfl rfl) (Bt rfl rfl (v:=.bool (decide ((s.length:Int)<19))) rfl) (l_v (Bn rfl rfl (v:=.bool (decide ((s.length:Int)<19))) rfl) (l_k k4 (Co rfl (Nl (by omega)) (w_q rfl rfl fun K5 k5=>Au (.string (bs s)) (Av (.string (bs s)) (Ary rfl rfl k5 fun K6 K7 k6 k7=>Au (.string (bs s)) ?_)))))))))))))))))))))))))))
 obtain⟨g,j⟩:=Yl (p:=s) (i:=0) (by omega)
 have cl:=g.toNat_lt
 have F:=Beh hz j
 refine l_v (Fs (p:=s) 0 g Biy rfl (q:=0) rfl rfl j) (l_v (Ek rfl rfl) (Au (.bool ((g.toNat:Int)==45)) (Cn ((g.toNat:Int)==45) (fun a=>?_) (fun a=>?_))))
 ·have hm:Lz s=true:=by
   rcases F with⟨_,h⟩|⟨h,_,_⟩
   ·exact h
   ·exfalso;have:=Jr a;omega
  have hD:Hj s=((s.take s.length).drop 1):=(Asy hm).symm
  have f:=f;rw[hD]at f;have G:=W;have H:=Y;rw[hD]at G H
  have q9:=Jr a
  refine Ap (gN rfl a) (Ap (gN rfl a) (Ap (gN rfl a) (l_v (Bt rfl a (v:=bT) rfl) (l_k k7 (Co rfl rfl (w_q rfl rfl fun b8 a8=>Au (.string (bs s)) (l_v (Pp (p:=s) (l:=1) (h:=s.length) Biy rfl (.inr ⟨_,rfl,rfl⟩) (.inl ⟨rfl,rfl⟩) (by omega) (by omega)) (Av (.string (bs ((s.take s.length).drop 1))) (Arx rfl rfl a8 fun ba a9=>Au (.string (bs ((s.take s.length).drop 1))) (l_v (Ce Biy (p:=(s.take s.length).drop 1) rfl) (l_v (Da rfl rfl) (l_k a9 (Cg rfl (Sq (by omega)) (Al (kk k6 ?_)))))))))))))))
  refine w_q rfl rfl fun bb aa=>Av (iV 0) (Ary rfl rfl aa fun bc bd ab ac=>Au (.string (bs ((s.take s.length).drop 1))) (Arv (Amd (s:=bs ((s.take s.length).drop 1)) Biy Bjb Bje rfl (by rw[Ea];omega) fun a0 K c4 cq c9 a4 a6=>?_)))
  refine Alh a4 a6 (by rw[Ea];omega) fun a2 b2 k=>?_
  replace k:Val a2 (.slice (some ⟨a0,0,none⟩) (bs ((s.take s.length).drop 1)).size K) (((s.take s.length).drop 1)):=k
  have cb:=Val.len k
  refine l_v (Ci (el:=5) Bjb rfl k) (Au (iV 0) (l_k ac (Ao (Cc (fun mm ee dd ρ' σ'=>∃(i:Nat) (n:Nat),((((s.take s.length).drop 1)).length-i)=mm∧[]=dd∧a2=ρ'∧σ=σ'∧ee 5=(.string (bs s))∧ee 47=(.slice (some ⟨a0,0,none⟩) (bs ((s.take s.length).drop 1)).size K)∧ee 48=(iV (((((s.take s.length).drop 1)).length:Nat):Int))∧ee 6=iV n∧ee 49=iV i∧(i≤(((s.take s.length).drop 1)).length)∧(n=Yb ((((s.take s.length).drop 1)).take i))∧True) (m:=_) ⟨0,0,rfl,rfl,rfl,rfl,rfl,rfl,rfl,rfl,rfl,Oc _,rfl,trivial⟩ ?_))))
  rintro cm c6 _ _ _ ⟨i,n,rfl,rfl,rfl,rfl,O,M,N,P,B,co,I,_⟩
  have ce:n<1000000000:=by rw[I];have:=Aey (n:=9) (d:=(((s.take s.length).drop 1)).take i) (Gn.2 fun c hc=>Gn.1 f c (List.mem_of_mem_take hc)) (by rw[Er];omega);omega
  refine w_q rfl rfl fun be ad=>l_v (Da B N) (Asa ad fun bf ae=>Bp (t:=decide ((i:Int)<(((((s.take s.length).drop 1)).length:Nat):Int))) rfl (fun x=>?_) (fun x=>?_))
  ·have b4:=Ee x
   refine Al (kk ae ?_)
   refine Ai fun bg af=>Ao (w_q rfl rfl fun bh ag=>?_)
   obtain⟨b,D⟩:=Ed (xs:=(s.take s.length).drop 1) (i:=i) (by omega)
   have ch:=Afa (Atq f D)
   refine Arw (Ch i Bjb ty5 M k (q:=(i:Int)) B rfl D) fun cs b6=>l_v (Aaf ty5 rfl b6) (Av (.int .u8 (b.toNat:Int)) (Arx rfl rfl ag fun bi ah=>Au (.int .u8 (b.toNat:Int)) (l_v (Ou rfl rfl (z:=(((b.toNat-48):Nat):Int)) ((Anq (by omega) (by omega)).trans (by omega))) (Av (.int .u8 (((b.toNat-48):Nat):Int)) (Ary rfl rfl ah fun bj bk ai aj=>Au (.int .u8 (((b.toNat-48):Nat):Int)) (l_v (Gl rfl rfl) (l_k aj (Cg rfl (Sq (by omega)) (Al (kk ai ?_))))))))))
   refine Ag rfl rfl (l_v (Ah (v:=iV n) P) (l_v (Wq rfl rfl (z:=(((n*10):Nat):Int)) wrE) (Au (.int .u8 (((b.toNat-48):Nat):Int)) (l_v (Acf (p:=(((b.toNat-48):Nat):Int)) (z:=(((b.toNat-48):Nat):Int)) Bje Bjd rfl wrR) (l_v (Mb ((((n*10)+(b.toNat-48)):Nat):Int)) (Av (iV ((((n*10)+(b.toNat-48)):Nat):Int)) (l_k af (Ag rfl rfl (l_v (Br B rfl (z:=(((i+1):Nat):Int)) wrE) (Au (iV ((i+1):Nat)) (Ac ?_)))))))))))
   refine⟨_,?_,(i+1),((n*10)+(b.toNat-48)),rfl,rfl,rfl,rfl,O,M,N,rfl,rfl,(by omega),(by rw[Ahn D,I];omega),trivial⟩
   omega
  have b4:=Fv x
  refine Bx (kk ab ?_)
  refine Asb rfl rfl fun bl bm ak al=>l_v (Ah (v:=.string (bs s)) O) (l_v (Fs (p:=s) 0 g Biy rfl (q:=0) rfl rfl j) (l_v (Ek rfl rfl) (l_k al (Co rfl a (Ag rfl rfl (l_v (Ah (v:=iV n) P) (l_v (Bhq (p:=(n:Int)) (z:=-(n:Int)) rfl (Bo (by omega) (by omega) (by omega))) (Av (iV (-(n:Int))) (Arx rfl rfl ak fun bn am=>Au (iV (-(n:Int))) (Av (iV (-(n:Int))) (Av .nilIface (l_k am (Aq (Z ⟨b2,rfl,Eq.trans (Mp (r:=2) (r':=3) (rs:=[]) (v:=iV (-(n:Int))) (v':=.nilIface) (vs:=[]) ⟨rfl,rfl,trivial⟩) ?_⟩))))))))))))))
  have hi:i=(((s.take s.length).drop 1)).length:=by omega
  rw[Ie,hm,hD]
  have:=I
  rw[hi,Qs]at this
  rw[this];rfl
 have hm:Lz s=false:=by
  rcases F with⟨h,_⟩|⟨_,_,h⟩
  ·exact absurd h (Auh (n:=45) (Jq a))
  ·exact h
 have hD:Hj s=s:=by unfold Hj;rw[hm];rfl
 have cd:48≤g.toNat:=by
  rcases F with⟨h,_⟩|⟨h,_,_⟩
  ·exact absurd h (Auh (n:=45) (Jq a))
  ·exact h
 have f:=f;rw[hD]at f;have G:=W;have H:=Y;rw[hD]at G H
 have q9:=Jq a
 refine l_M (.string (bs s)) (gY rfl a) rfl (Aa (gY rfl a) (Fs (p:=s) 0 g Biy rfl (q:=0) rfl rfl j) (Aa (gY rfl a) (Ek rfl rfl) (l_v (Bn rfl a (v:=.bool ((g.toNat:Int)==43)) rfl) (l_k k7 (Cg rfl (beq_eq_false_iff_ne.2 (by omega)) (Al (kk k6 ?_)))))))
 refine w_q rfl rfl fun bo an=>Av (iV 0) (Ary rfl rfl an fun bp bq ao ap=>Au (.string (bs s)) (Arv (Amd (s:=bs s) Biy Bjb Bje rfl (by rw[Ea];omega) fun a1 L c5 cr ca a5 a7=>?_)))
 refine Alh a5 a7 (by rw[Ea];omega) fun a3 b3 u=>?_
 replace u:Val a3 (.slice (some ⟨a1,0,none⟩) (bs s).size L) s:=u
 have cc:=Val.len u
 refine l_v (Ci (el:=5) Bjb rfl u) (Au (iV 0) (l_k ap (Ao (Cc (fun mm ee dd ρ' σ'=>∃(i:Nat) (n:Nat),(s.length-i)=mm∧[]=dd∧a3=ρ'∧σ=σ'∧ee 5=(.string (bs s))∧ee 47=(.slice (some ⟨a1,0,none⟩) (bs s).size L)∧ee 48=(iV (s.length:Int))∧ee 6=iV n∧ee 49=iV i∧(i≤s.length)∧(n=Yb (s.take i))∧True) (m:=_) ⟨0,0,rfl,rfl,rfl,rfl,rfl,rfl,rfl,rfl,rfl,Oc _,rfl,trivial⟩ ?_))))
 rintro cn c7 _ _ _ ⟨i,n,rfl,rfl,rfl,rfl,U,R,T,V,C,cp,J,_⟩
 have cf:n<1000000000:=by rw[J];have:=Aey (n:=9) (d:=s.take i) (Gn.2 fun c hc=>Gn.1 f c (List.mem_of_mem_take hc)) (by rw[Er];omega);omega
 refine w_q rfl rfl fun br aq=>l_v (Da C T) (Asa aq fun bt ar=>Bp (t:=decide ((i:Int)<(s.length:Int))) rfl (fun y=>?_) (fun y=>?_))
 ·have b5:=Ee y
  refine Al (kk ar ?_)
  refine Ai fun bu au=>Ao (w_q rfl rfl fun bv av=>?_)
  obtain⟨e,E⟩:=Ed (xs:=s) (i:=i) (by omega)
  have ci:=Afa (Atq f E)
  refine Arw (Ch i Bjb ty5 R u (q:=(i:Int)) C rfl E) fun ct b7=>l_v (Aaf ty5 rfl b7) (Av (.int .u8 (e.toNat:Int)) (Arx rfl rfl av fun bx aw=>Au (.int .u8 (e.toNat:Int)) (l_v (Ou rfl rfl (z:=(((e.toNat-48):Nat):Int)) ((Anq (by omega) (by omega)).trans (by omega))) (Av (.int .u8 (((e.toNat-48):Nat):Int)) (Ary rfl rfl aw fun bz c0 ax ay=>Au (.int .u8 (((e.toNat-48):Nat):Int)) (l_v (Gl rfl rfl) (l_k ay (Cg rfl (Sq (by omega)) (Al (kk ax ?_))))))))))
  refine Ag rfl rfl (l_v (Ah (v:=iV n) V) (l_v (Wq rfl rfl (z:=(((n*10):Nat):Int)) wrE) (Au (.int .u8 (((e.toNat-48):Nat):Int)) (l_v (Acf (p:=(((e.toNat-48):Nat):Int)) (z:=(((e.toNat-48):Nat):Int)) Bje Bjd rfl wrR) (l_v (Mb ((((n*10)+(e.toNat-48)):Nat):Int)) (Av (iV ((((n*10)+(e.toNat-48)):Nat):Int)) (l_k au (Ag rfl rfl (l_v (Br C rfl (z:=(((i+1):Nat):Int)) wrE) (Au (iV ((i+1):Nat)) (Ac ?_)))))))))))
  refine⟨_,?_,(i+1),((n*10)+(e.toNat-48)),rfl,rfl,rfl,rfl,U,R,T,rfl,rfl,(by omega),(by rw[Ahn E,J];omega),trivial⟩
  omega
 have b5:=Fv y
 refine Bx (kk ao ?_)
 refine Asb rfl rfl fun c1 c2 az b0=>l_v (Ah (v:=.string (bs s)) U) (l_v (Fs (p:=s) 0 g Biy rfl (q:=0) rfl rfl j) (l_v (Ek rfl rfl) (l_k b0 (Cg rfl a (Al (kk az ?_))))))
 refine w_q rfl rfl fun c3 b1=>l_v (Ah (v:=iV n) V) (Av (iV n) (Av .nilIface (l_k b1 (Aq (Z ⟨b3,rfl,Eq.trans (Mp (r:=2) (r':=3) (rs:=[]) (v:=iV n) (v':=.nilIface) (vs:=[]) ⟨rfl,rfl,trivial⟩) ?_⟩)))))
 have hi:i=s.length:=by omega
 rw[Ie,hm,hD]
 have:=J
 rw[hi,Qs]at this
 rw[this];rfl
theorem Atz{s:List UInt8}(hz:Ho s=true):CallsH (CX mn X) 153 #[.string (bs s)] ρ σ (fun w ρ' σ'=>Ro.le ρ ρ'∧σ'=σ∧w = .tuple #[iV (Ie s),.nilIface]):=by
 refine Ba 18 [2,3] Tryz.func153 rfl fun Q d u=>w_q rfl rfl fun m f=>Av (iV 0) (Av .nilIface (Arx rfl rfl f fun n g=>Au (.string (bs s)) (Arv (Cm (vs:=[.string (bs s)]) (Azd (s:=s) hz) Tryz.func200 rfl rfl ⟨rfl,trivial⟩ fun x y z c=>?_))))
 obtain⟨k,a,e⟩:=c
 replace a:=a.symm;subst a e
 refine Au (.tuple #[iV (Ie s),.nilIface]) (l_v (Nz (iV (Ie s))) (l_v (Nz .nilIface) (Av (iV (Ie s)) (Av .nilIface (Ary rfl rfl g fun p q h i=>Au .nilIface (l_v (Atl (w:=.nilIface) (b:=true) Tryz.underlying90 (.inl ⟨rfl,rfl⟩) rfl) (l_k i (Cg rfl rfl (Al (kk h ?_))))))))))
 refine w_q rfl rfl fun t j=>Au (iV (Ie s)) (Av (iV (Ie s)) (Av .nilIface (l_k j (Aq (d ⟨k,rfl,Mp (r:=2) (r':=3) (rs:=[]) (v:=iV (Ie s)) (v':=.nilIface) (vs:=[]) ⟨rfl,rfl,trivial⟩⟩)))))
end
section
open Go
def Ave:TypeDesc→Bool
 | .interface _=>true
 | _=>false
section
variable{P:Program}{ρ:Ro}{e:Env}{ty t t':TypeId}{x y:Operand}{v:Value}
theorem Anr{d:TypeDesc}(hT:P.underlying t=some d)(hd:Ave d=false)(hx:Af e x=v):Yld P ρ e (.makeInterface t x) ty (.iface t v) :=
 Mt (s:=Instr.makeInterface t (Af e x)) (fun _ _ _ _=>rfl) fun ρ' σ _=>by
 rw[hx]
 show wpS P ρ' ((underlying t).bind _) σ _
 rw[Ad]
 refine Az hT ?_
 cases d<;>first|exact⟨rfl,rfl⟩|cases hd
theorem Atk{d:TypeDesc}(hT:P.underlying t'=some d)(hd:Ave d=false)(hx:Af e x = .iface t' v):Yld P ρ e (.typeAssert x t t' true) ty (.tuple #[v,.bool true]) :=
 Mt (s:=Instr.typeAssert (Af e x) t t' true) (fun _ _ _ _=>rfl) fun ρ' σ _=>by
 rw[hx]
 show wpS P ρ' ((underlying t').bind _) σ _
 rw[Ad]
 refine Az hT ?_
 cases d<;>first|(simp only[if_true];exact⟨rfl,rfl⟩)|cases hd
end
section
variable{C:Ctx}{e:Env}{ds:List Deferred}{ρ:Ro}{σ:Own}{K:Value→List Deferred→Ro→Own→Prop}{rd:Option Nat}{dd:Option Tmp}
variable{ty:TypeId}{pos:String}{af:Array Edge}{g:Option (Nat×Bool)}{x:Operand}{t:TypeId}{v v':Value}
end
end
section
open Go
theorem Aue{mn:Bool}{X:Frame→List Frame→Ro→Own→Cy→Prop}{ρ:Ro}{σ:Own}{p:List UInt8}{L:List ByteArray}(hL:L=bw (Bv p))(hb:p.length≤60000):CallsH (CX mn X) 102 #[.string (bs p),.string (bs ([32]:List UInt8))] ρ σ (fun w ρ' σ'=>Ro.le ρ ρ'∧σ'=σ∧Val ρ' w (L:List ByteArray)):=by
 rw[hL];exact Azi hb
end
section
open Go
def ObjsO(τ:Own):Prop:=∀x∈τ,∃r o,x=(r,Res.obj o)
theorem Tc{r:Nat}{o:Obj}:ObjsO [(r,Res.obj o)]:=fun x hx=>by rw[Jd.1 hx];exact⟨_,_,rfl⟩
theorem ObjsO.add{τ:Own}{a b:Nat}{o o':Obj}(h:ObjsO τ):ObjsO (τ++[(a,Res.obj o),(b,Res.obj o')]):=fun x hx=>by
 rcases lZ9.1 hx with h1|h1
 ·exact h x h1
 ·rcases lZ5.1 h1 with rfl|h2
  ·exact⟨_,_,rfl⟩
  ·rw[Jd.1 h2];exact⟨_,_,rfl⟩
theorem Ald{pfx τ:Own}{a b:Nat×Res}:(pfx++[a,b]++τ)[pfx.length]?=some a:=by simp
theorem Apo{pfx τ:Own}{a b a':Nat×Res}:(pfx++[a,b]++τ).set pfx.length a'=pfx++[a',b]++τ:=by
 rw[lZ6,List.set_append_right _ _ (Dp _),Acu,lZ6];rfl
theorem Aej{pfx τ:Own}{a b:Nat×Res}:pfx++a::b::τ=pfx++[a,b]++τ:=by simp
section
variable{mn:Bool}{X:Frame→List Frame→Ro→Own→Cy→Prop}{b:FB}{n:Nat}{e:Env}{ds:List Deferred}{ρ:Ro}{σ:Own}
end
def Bu(acc:List UInt8):List UInt8→List (List UInt8)
 | []=>if acc=[] then [] else [acc]
 | x::r=>if x=10 then (acc++[10])::Bu [] r else Bu (acc++[x]) r
theorem Aui{acc:List UInt8}:Ay (acc++[10])=acc:=by
 unfold Ay
 have e:(acc++[10]).drop ((acc++[10]).length-1)=[10]:=by simp
 rw[e];simp
theorem Acy:∀{s acc:List UInt8},(∀x∈s,x≠10)→Bu acc s=if acc++s=[] then [] else [acc++s]
 | [],acc,_=>by unfold Bu;rw[Jt]
 | x::r,acc,h=>by
  unfold Bu
  rw[if_neg (h x mC),Acy fun y hy=>h y (lZ0 _ hy)]
  simp
theorem Acx:∀{m:Nat} {s acc:List UInt8},s[m]?=some 10→(∀j,j<m→s[j]?≠some 10)→Bu acc s=(acc++s.take (m+1))::Bu [] (s.drop (m+1))
 | _,[],_,h,_=>by cases h
 | 0,x::r,acc,h,_=>by
  obtain rfl:x=10:=by simpa using h
  conv=>lhs;unfold Bu
  rw[if_pos rfl];rfl
 | m+1,x::r,acc,h,hj=>by
  have hx:x≠10:=fun e=>hj 0 (by omega) (by rw[e];rfl)
  conv=>lhs;unfold Bu
  rw[if_neg hx,Acx (m:=m) (s:=r) (by simpa using h) (fun j hjm=>by have:=hj (j+1) (by omega);simpa using this)]
  simp
theorem Aje{s:List UInt8}{m:Nat}(h:s[m]?=some 10)(hj:∀j,j<m→s[j]?≠some 10):Bu [] s=((s.take (m+1)).drop 0)::Bu [] ((s.take s.length).drop (m+1)):=by
 rw[Acx h hj,Qs,Qt,Wi]
theorem Ajd{s:List UInt8}(h:∀x∈s,x≠10)(hs:0<s.length):Bu [] s=[s]:=by
 rw[Acy h,Qt,if_neg]
 intro e;rw[e]at hs;cases hs
theorem Uo:∀{s acc:List UInt8},∀w∈Bu acc s,w.length≤acc.length+s.length
 | [],acc,w,hw=>by
  unfold Bu at hw
  split at hw
  ·cases hw
  ·rw[Jd.1 hw];simp
 | x::r,acc,w,hw=>by
  unfold Bu at hw
  split at hw
  ·rcases lZ5.1 hw with rfl|h1
   ·simp
   ·have:=Uo w h1;simp only[Ic,lZ7]at *;omega
  ·have:=Uo w hw;simp only[lZ1,lZ7,Ic]at *;omega
end
section
open Go
theorem Arr{s:List UInt8}(h:decide (Ii 10 s≥0)=true):∃m:Nat,Ii 10 s=(m:Int)∧m<s.length∧Bu [] s=((s.take (m+1)).drop 0)::Bu [] ((s.take s.length).drop (m+1)):=by
 rcases Px (c:=10) (p:=s) with⟨m,a,b,d,e⟩|⟨a,_⟩
 ·exact⟨m,a,b,Aje d e⟩
 ·have:=Ee h;omega
theorem Arq{s:List UInt8}(h:decide (Ii 10 s≥0)=false)(hs:0<s.length):Bu [] s=[s]:=by
 rcases Px (c:=10) (p:=s) with⟨m,a,b,d,e⟩|⟨_,a⟩
 ·have:=Fv h;omega
 ·exact Ajd a hs
theorem Auc{mn:Bool}{X:Frame→List Frame→Ro→Own→Cy→Prop}{ρ:Ro}{σ:Own}{t:List UInt8} :CallsH (CX mn X) 27 #[.string (bs t)] ρ σ (fun w ρ' σ'=>ρ'=ρ∧∃k:Nat,w = .func (.func 55) #[] #[pV k]∧σ'=(k,oC #[.string (bs t)] 9)::σ):=by
 refine Ba 4 [2] Tryz.func27 rfl fun Q b g=>w_q rfl rfl fun e c=>Arv (Eb (v:=.string (bs t)) rfl fun a=>?_)
 refine Av .nilFunc (Arx rfl rfl c fun f d=>l_v (Il (fn:=.func 55) (caps:=[.tmp 1]) (vs:=[pV a]) ⟨rfl,trivial⟩) (Av (.func (.func 55) #[] #[pV a]) (l_k d (Aq (b ⟨rfl,_,rfl,rfl⟩)))))
theorem Azj{mn:Bool}{X:Frame→List Frame→Ro→Own→Cy→Prop}{ρ:Ro}{σ:Own}{n:Nat}(hn:n<100):CallsH (CX mn X) 139 #[iV n] ρ σ (rP ρ σ (.string (bs (Ev n)))):=by
 refine Ba 15 [2] Tryz.func139 rfl fun Q b v=>w_q rfl rfl fun j c=>Av (.string (ByteArray.mk #[])) (Ary rfl rfl c fun k m d e=>Au (iV n) (l_v (Da rfl rfl) (l_k e (Bp (t:=decide ((n:Int)<10)) rfl (fun a=>?_) (fun a=>?_)))))
 ·have i:=Ee a
  refine w_q rfl rfl fun q f=>Au (iV n) (Au (iV n) (l_v (Mb (((n+1):Nat):Int)) (l_v (Pp (p:=bZ1) (l:=n) (h:=n+1) Biy rfl (.inr ⟨_,rfl,rfl⟩) (.inr ⟨_,rfl,rfl⟩) (by first|omega|(show _≤36;omega)|(show _≤200;omega)) (by first|omega|(show _≤36;omega)|(show _≤200;omega))) (Av (.string (bs (((bZ1).take (n+1)).drop n))) (l_k f (Aq (b ⟨rfl,rfl,eT (.string (bs (((bZ1).take (n+1)).drop n))) ?_⟩)))))))
  rw[Bbr (by omega)]
 have i:=Fv a
 refine Al (kk d ?_)
 refine w_q rfl rfl fun u g=>Au (iV n) (l_v (Wq rfl rfl (z:=(((n*2):Nat):Int)) wrE) (Au (iV n) (l_v (Wq rfl rfl (z:=(((n*2):Nat):Int)) wrE) (l_v (Mb ((((n*2)+2):Nat):Int)) (l_v (Pp (p:=smL) (l:=n*2) (h:=(n*2)+2) Biy rfl (.inr ⟨_,rfl,rfl⟩) (.inr ⟨_,rfl,rfl⟩) (by first|omega|(show _≤36;omega)|(show _≤200;omega)) (by first|omega|(show _≤36;omega)|(show _≤200;omega))) (Av (.string (bs ((smL.take ((n*2)+2)).drop (n*2)))) (l_k g (Aq (b ⟨rfl,rfl,eT (.string (bs ((smL.take ((n*2)+2)).drop (n*2)))) ?_⟩)))))))))
 rw[Bbs (by omega) (by omega)]
theorem Aqm{mn:Bool}{X:Frame→List Frame→Ro→Own→Cy→Prop}{ρ:Ro}{σ:Own}{n:Nat}(h1:n<100):CallsH (CX mn X) 107 #[iV n,iV 10] ρ σ (rP ρ σ (.string (bs (Ev n)))):=by
 refine Ba 54 [4] Tryz.func107 rfl fun Q a m=>w_q rfl rfl fun f b=>Av (.string (ByteArray.mk #[])) (Ary rfl rfl b fun g h p c=>Au (iV 10) (l_v (Ek rfl rfl) (l_k c (Co rfl rfl (Asb rfl rfl fun i j q d=>Au (iV n) (l_v (Uz rfl rfl) (Au (.bool (decide (0≤(n:Int)))) (l_M (iV n) (gY rfl (Nl (by omega))) rfl (Aa (gY rfl (Nl (by omega))) (Da rfl rfl) (l_v (Bt rfl (Nl (by omega)) (v:=.bool (decide ((n:Int)<100))) rfl) (l_k d (Co rfl (Nl (by omega)) (w_q rfl rfl fun k e=>Au (iV n) (Arv (Hr (Azj (n:=n) (by omega)) Tryz.func139 ?_)))))))))))))))
 refine Av (.string (bs (Ev n))) (l_k e (Aq (a (rT (.string (bs (Ev n))) ?_))))
 rfl
def pcC(c:UInt8):Bool:=decide (32≤c.toNat)&&decide (c.toNat≤126)
def Db(p:List UInt8):Bool:=p.all pcC
def Axd(p:List UInt8)(j:Nat):Bool:=match p[j]? with|some c=>pcC c|none=>true
theorem Bgy{p:List UInt8}{i:Nat}{c:UInt8}(h:p[i]?=some c)(h1:32≤c.toNat)(h2:c.toNat≤126):Axd p i=true:=by
 unfold Axd;rw[h];simp[pcC,h1,h2]
theorem Bbc{p:List UInt8}(h:∀j,j<p.length→Axd p j=true):Db p=true:=by
 unfold Db
 rw[Gn]
 intro c hc
 obtain⟨j,hj⟩:=We hc
 have:=h j (lZ8.1 hj).1
 unfold Axd at this;rw[hj]at this;exact this
theorem Apl{p:List UInt8}{i:Nat}{c:UInt8}(h:p[i]?=some c)(h1:c.toNat<32∨126<c.toNat):Db p=false:=by
 cases hp:Db p with
 | false=>rfl
 | true =>
  have:=Gn.1 hp c (lZ3 h)
  simp only[pcC,Gm,decide_eq_true_eq]at this
  omega
/-- The weighted sum,from a place on. -/
def Wj:List UInt8→Nat→Nat
 | [],_=>0
 | c::p,i=>c.toNat*(i%96+1)+Wj p (i+1)
theorem Ayc(p q:List UInt8)(i:Nat):Wj (p++q) i=Wj p i+Wj q (i+p.length):=by
 induction p generalizing i with
 | nil=>simp[Wj]
 | cons c p ih =>
  rw[Sp,Wj,Wj,ih,lZ7,show i+1+p.length=i+(p.length+1) by omega];omega
theorem Asx{p:List UInt8}{i:Nat}{c:UInt8}(h:p[i]?=some c):Wj (p.take (i+1)) 0=Wj (p.take i) 0+c.toNat*(i%96+1):=by
 rw[Aos,h,Ayc]
 have:(p.take i).length=i:=by rw[Er];have:=(lZ8.1 h).1;omega
 simp[Wj,this]
theorem Baw(c:UInt8)(i:Nat):c.toNat*(i%96+1)≤24480:=by
 have d:=c.toNat_lt
 have b:i%96+1≤96:=by omega
 calc c.toNat*(i%96+1)≤255*96:=Zf (by omega) b
  _=24480:=rfl
/-- The check of a line. -/
def Dr(n:Nat)(p:List UInt8):Nat:=(7*n+Wj p 0)%97
theorem Ws(n:Nat)(p:List UInt8):Dr n p<97:=Nat.mod_lt _ (by omega)
def Aez(c:Nat):List UInt8:=[UInt8.ofNat (48+c/10),UInt8.ofNat (48+c%10)]
/-- A line with its check. -/
def Fj(n:Nat)(p:List UInt8):List UInt8:=p++[32,35]++Aez (Dr n p)++[10]
/-- It ends with a line feed. -/
def Jl(p:List UInt8):Bool:=p.drop (p.length-1)==[10]
/-- A blank,# and two digits. -/
def Hl(s:List UInt8):Bool:=s.take 2==[32,35]&&(s.drop 2).all Dm
def ckV(s:List UInt8):Nat:=match s with|[_,_,a,b]=>(a.toNat-48)*10+(b.toNat-48)|_=>0
def ckR(s:List UInt8):Nat:=if Hl s=true then ckV s else 0
theorem Bgk{s:List UInt8}(h:(s.take 2 != [32,35])=true):Hl s=false:=by
 unfold Hl
 rw[bne_iff_ne]at h
 have:(s.take 2==[32,35])=false:=by simpa using h
 rw[this];rfl
theorem Bgl{s:List UInt8}(h:(s.drop 2).all Dm=false):Hl s=false:=by unfold Hl;rw[h,Ait]
theorem Bhu{s:List UInt8}(h1:(s.take 2 != [32,35])=false)(h2:(s.drop 2).all Dm=true):Hl s=true:=by
 unfold Hl
 have:(s.take 2==[32,35])=true:=by simpa using h1
 rw[this,h2];rfl
theorem Bch{s:List UInt8}(h:Hl s=false):ckR s=0:=by unfold ckR;rw[h];rfl
theorem Bci{s:List UInt8}{i:Nat}{c:UInt8}(h:(s.drop 2).all Dm=true)(hi:2≤i)(hc:s[i]?=some c):48≤c.toNat∧c.toNat≤57:=by
 have hm:c∈s.drop 2:=lZ3 (i:=i-2) (by rw[Zd,show 2+(i-2)=i by omega];exact hc)
 have:=Gn.1 h c hm
 exact Afa this
theorem Bgj{s:List UInt8}{a b:UInt8}(hl:s.length=4)(h:Hl s=true)(h2:s[2]?=some a)(h3:s[3]?=some b):ckR s=(a.toNat-48)*10+(b.toNat-48):=by
 unfold ckR
 rw[if_pos h]
 match s,hl with
 | [x,y,z,w],_ =>
  simp at h2 h3
  subst h2 h3
  rfl
end
section
open Go
variable{mn:Bool}{X:Frame→List Frame→Ro→Own→Cy→Prop}{ρ:Ro}{σ:Own}
theorem Rf{n low high:Int} :CallsH (CX mn X) 49 #[iV n,iV low,iV high] ρ σ (rP ρ σ (.bool (inR n low high))):=by
 refine Ba 15 [6] Bjv rfl fun Q b h=>w_q rfl rfl fun f d=>Av bF (Arx rfl rfl d fun g c=>Au (iV low) (Au (iV n) (l_v (Uz rfl rfl) (Au (.bool (decide (low≤n))) (Cn (decide (low≤n)) (fun a=>?_) (fun a=>?_))))))
 ·have e:=Ee a
  refine l_M (iV n) (gY rfl a) rfl (l_M (iV high) (gY rfl a) rfl (Aa (gY rfl a) (Uz rfl rfl) (l_v (Bt rfl a (v:=.bool (decide (n≤high))) rfl) (Av (.bool (decide (n≤high))) (l_k c (Aq (b (rT (.bool (decide (n≤high))) ?_))))))))
  simp only[inR,a,bZl]
 have e:=Fv a
 refine Ap (gN rfl a) (Ap (gN rfl a) (Ap (gN rfl a) (l_v (Bn rfl a (v:=bF) rfl) (Av bF (l_k c (Aq (b (rT bF ?_))))))))
 simp only[inR,a,bZl]
theorem Aqq{c:UInt8} :CallsH (CX mn X) 51 #[.int .u8 (c.toNat:Int)] ρ σ (rP ρ σ (.bool (Ov (c.toNat:Int)))):=by
 refine Ba 21 [2] Tryz.func51 rfl fun Q h z=>w_q rfl rfl fun x j=>Av bF (Arx rfl rfl j fun y i=>Au (.int .u8 (c.toNat:Int)) (l_v (Da rfl rfl) (Au (.bool (decide ((c.toNat:Int)<97))) (Cn (decide ((c.toNat:Int)<97)) (fun b=>?_) (fun b=>?_)))))
 ·have k:=Ee b
  refine Ap (gN rfl b) (Ap (gN rfl b) (l_v (Bt rfl b (v:=bT) rfl) (Au bT (l_M (.int .u8 (c.toNat:Int)) (gY rfl rfl) rfl (Aa (gY rfl rfl) (Da rfl rfl) (l_M (.bool (decide ((c.toNat:Int)<48))) (gY rfl rfl) rfl (Cn (decide ((c.toNat:Int)<48)) (fun d=>?_) (fun d=>?_))))))))
  ·have m:=Ee d
   refine Ap (gN rfl d) (Ap (gN rfl d) (Aa (gY rfl rfl) (Bt rfl d (v:=bT) rfl) (l_v (Bt rfl rfl (v:=bT) rfl) (Au bT (l_M (.int .u8 (c.toNat:Int)) (gY rfl rfl) rfl (Aa (gY rfl rfl) (Dg rfl rfl) (l_v (Bt rfl rfl (v:=.bool ((c.toNat:Int) != 45)) rfl) (Av (.bool ((c.toNat:Int) != 45)) (l_k i (Aq (h (rT (.bool ((c.toNat:Int) != 45)) ?_))))))))))))
   simp only[Ov,b,d,bZl]
  have m:=Fv d
  refine l_M (.int .u8 (c.toNat:Int)) (gY rfl d) rfl (Aa (gY rfl d) (Gl (p:=(c.toNat:Int)) (q:=57) rfl rfl) (Aa (gY rfl rfl) (Bn rfl d (v:=.bool (decide ((c.toNat:Int)>57))) rfl) (l_v (Bt rfl rfl (v:=.bool (decide ((c.toNat:Int)>57))) rfl) (Au (.bool (decide ((c.toNat:Int)>57))) (Cn (decide ((c.toNat:Int)>57)) (fun f=>?_) (fun f=>?_))))))
  ·have n:=Ee f
   refine l_M (.int .u8 (c.toNat:Int)) (gY rfl f) rfl (Aa (gY rfl f) (Dg rfl rfl) (l_v (Bt rfl f (v:=.bool ((c.toNat:Int) != 45)) rfl) (Av (.bool ((c.toNat:Int) != 45)) (l_k i (Aq (h (rT (.bool ((c.toNat:Int) != 45)) ?_)))))))
   simp only[Ov,b,d,f,bZl]
  have n:=Fv f
  refine Ap (gN rfl f) (Ap (gN rfl f) (l_v (Bn rfl f (v:=bF) rfl) (Av bF (l_k i (Aq (h (rT bF ?_)))))))
  simp only[Ov,b,d,f,bZl]
 have k:=Fv b
 refine l_M (.int .u8 (c.toNat:Int)) (gY rfl b) rfl (Aa (gY rfl b) (Gl (p:=(c.toNat:Int)) (q:=122) rfl rfl) (l_v (Bn rfl b (v:=.bool (decide ((c.toNat:Int)>122))) rfl) (Au (.bool (decide ((c.toNat:Int)>122))) (Cn (decide ((c.toNat:Int)>122)) (fun a=>?_) (fun a=>?_)))))
 ·have t:=Ee a
  refine l_M (.int .u8 (c.toNat:Int)) (gY rfl a) rfl (Aa (gY rfl a) (Da rfl rfl) (l_M (.bool (decide ((c.toNat:Int)<48))) (gY rfl a) rfl (Cn (decide ((c.toNat:Int)<48)) (fun e=>?_) (fun e=>?_))))
  ·have u:=Ee e
   refine Ap (gN rfl e) (Ap (gN rfl e) (Aa (gY rfl a) (Bt rfl e (v:=bT) rfl) (l_v (Bt rfl a (v:=bT) rfl) (Au bT (l_M (.int .u8 (c.toNat:Int)) (gY rfl rfl) rfl (Aa (gY rfl rfl) (Dg rfl rfl) (l_v (Bt rfl rfl (v:=.bool ((c.toNat:Int) != 45)) rfl) (Av (.bool ((c.toNat:Int) != 45)) (l_k i (Aq (h (rT (.bool ((c.toNat:Int) != 45)) ?_))))))))))))
   simp only[Ov,b,a,e,bZl]
  have u:=Fv e
  refine l_M (.int .u8 (c.toNat:Int)) (gY rfl e) rfl (Aa (gY rfl e) (Gl (p:=(c.toNat:Int)) (q:=57) rfl rfl) (Aa (gY rfl a) (Bn rfl e (v:=.bool (decide ((c.toNat:Int)>57))) rfl) (l_v (Bt rfl a (v:=.bool (decide ((c.toNat:Int)>57))) rfl) (Au (.bool (decide ((c.toNat:Int)>57))) (Cn (decide ((c.toNat:Int)>57)) (fun g=>?_) (fun g=>?_))))))
  ·have w:=Ee g
   refine l_M (.int .u8 (c.toNat:Int)) (gY rfl g) rfl (Aa (gY rfl g) (Dg rfl rfl) (l_v (Bt rfl g (v:=.bool ((c.toNat:Int) != 45)) rfl) (Av (.bool ((c.toNat:Int) != 45)) (l_k i (Aq (h (rT (.bool ((c.toNat:Int) != 45)) ?_)))))))
   simp only[Ov,b,a,e,g,bZl]
  have w:=Fv g
  refine Ap (gN rfl g) (Ap (gN rfl g) (l_v (Bn rfl g (v:=bF) rfl) (Av bF (l_k i (Aq (h (rT bF ?_)))))))
  simp only[Ov,b,a,e,g,bZl]
 have t:=Fv a
 refine Ap (gN rfl a) (Ap (gN rfl a) (Ap (gN rfl a) (Ap (Jf rfl rfl rfl) (Ap (Jf rfl rfl rfl) (Ap (gN rfl a) (l_v (Bn rfl a (v:=bF) rfl) (Au bF (Ap (gN rfl rfl) (Ap (gN rfl rfl) (l_v (Bn rfl rfl (v:=bF) rfl) (Av bF (l_k i (Aq (h (rT bF ?_)))))))))))))))
 simp only[Ov,b,a,bZl]
theorem Ahj{s:ByteArray}(hs:s.size<2^60):CallsH (CX mn X) 20 #[.string s] ρ σ (rP ρ σ (.bool (Hg s))):=by
 refine Ba 21 [2] Tryz.func20 rfl fun Q h U=>w_q rfl rfl fun J w=>Av bF (Ary rfl rfl w fun N O D j=>Au (.string s) (l_v (Afz Biy (s:=s) rfl) (Arv (Bm (vs:=[iV (s.size:Int),iV 1,iV 14]) (v:=.bool (inR (s.size:Int) 1 14)) Rf Bjv rfl rfl ⟨rfl,rfl,rfl,trivial⟩ ?_))))
 refine l_v (Iy rfl) (Au (.bool (!(inR (s.size:Int) 1 14))) (Cn (!(inR (s.size:Int) 1 14)) (fun a=>?_) (fun a=>?_)))
 ·have k:=not_eq_t a
  have V:=Bck.1 k
  refine Ap (gN rfl a) (Ap (gN rfl a) (Ap (gN rfl a) (l_v (Bt rfl a (v:=bT) rfl) (Au bT (Ap (gN rfl rfl) (Ap (gN rfl rfl) (Ap (gN rfl rfl) (l_v (Bt rfl rfl (v:=bT) rfl) (l_k j (Co rfl rfl (w_q rfl rfl fun P E=>Av bF (l_k E (Aq (h (rT bF ?_)))))))))))))))
  simp only[Hg,Qb,a,k,bZl]
 have g:=Jg a
 have W:=Fz.1 g
 refine l_M (.string s) (gY rfl a) rfl ?_
 obtain⟨d,f⟩:=Alc (s:=s) (i:=0) (by omega)
 refine Aa (gY rfl a) (Ace 0 d Biy rfl (q:=0) rfl rfl f) (Aa (gY rfl a) (Da rfl rfl) (l_v (Bn rfl a (v:=.bool (decide ((d.toNat:Int)<97))) rfl) (Au (.bool (decide ((d.toNat:Int)<97))) (Cn (decide ((d.toNat:Int)<97)) (fun b=>?_) (fun b=>?_)))))
 ·have H:=Ee b
  refine Ap (gN rfl b) (Ap (gN rfl b) (Ap (gN rfl b) (l_v (Bt rfl b (v:=bT) rfl) (l_k j (Co rfl rfl (w_q rfl rfl fun K y=>Av bF (l_k y (Aq (h (rT bF ?_))))))))))
  simp only[Hg,Qb,f,a,g,b,bZl]
 have H:=Fv b
 refine l_M (.string s) (gY rfl b) rfl (Aa (gY rfl b) (Ace 0 d Biy rfl (q:=0) rfl rfl f) (Aa (gY rfl b) (Gl (p:=(d.toNat:Int)) (q:=122) rfl rfl) (l_v (Bn rfl b (v:=.bool (decide ((d.toNat:Int)>122))) rfl) (l_k j (Bp (t:=decide ((d.toNat:Int)>122)) rfl (fun e=>?_) (fun e=>?_))))))
 ·have G:=Ee e
  refine w_q rfl rfl fun L z=>Av bF (l_k z (Aq (h (rT bF ?_))))
  simp only[Hg,Qb,f,a,g,b,e,bZl]
 have G:=Fv e
 refine Al (kk D ?_)
 refine w_q rfl rfl fun M B=>Au (.string s) (Arv (Amd (s:=s) Biy Bjb Bje rfl (by omega) fun C n R Y T m u=>?_))
 refine Alh m u (by omega) fun Z F I=>Arv (Bm (vs:=[.slice (some ⟨C,0,none⟩) s.size n,.func (.func 51) #[] #[]]) (v:=.bool (s.data.toList.any (fun c:UInt8=>Ov (c.toNat:Int)))) (Ta I (⟨51,Tryz.f51,[],rfl,Tryz.func51,rfl,rfl,fun mn X ρ σ v x hv=>by rw[Uq.1 hv];exact Aqq⟩:Su (.func (.func 51) #[] #[]) (fun c:UInt8=>Ov (c.toNat:Int)))) Tryz.func50 rfl rfl ⟨rfl,rfl,trivial⟩ ?_)
 refine l_v (Iy rfl) (Av (.bool (!(s.data.toList.any (fun c:UInt8=>Ov (c.toNat:Int))))) (l_k B (Aj (Ghost.forget F) (Aq (h ⟨rfl,rfl,eT (.bool (!(s.data.toList.any (fun c:UInt8=>Ov (c.toNat:Int))))) ?_⟩)))))
 rw[Akl,Bool.not_not]
 simp only[Hg,Qb,f,a,g,b,e,bZl]
theorem Anz{s:List UInt8}(hb:s.length≤60000):CallsH (CX mn X) 24 #[.string (bs s)] ρ σ (rP ρ σ (.bool (Db s))):=by
 refine Ba 20 [2] Tryz.func24 rfl fun Q k a0=>w_q rfl rfl fun M x=>Av bF (Ary rfl rfl x fun T U D E=>Au (.string (bs s)) (l_v (Ce Biy (p:=s) rfl) (Au (iV 0) (l_k E (Ao (Cc (fun mm ee dd ρ' σ'=>∃(i:Nat),(s.length-i)=mm∧[]=dd∧ρ=ρ'∧σ=σ'∧ee 0=(.string (bs s))∧ee 5=(iV (s.length:Int))∧ee 6=iV i∧(i≤s.length)∧(∀j,j<i→Axd s j=true)∧True) (m:=_) ⟨0,rfl,rfl,rfl,rfl,rfl,rfl,rfl,Oc _,fun j h=>absurd h (Aiz _),trivial⟩ ?_))))))
 rintro m4 e4 _ _ _ ⟨i,rfl,rfl,rfl,rfl,f,n,g,a2,w,_⟩
 refine w_q rfl rfl fun V F=>l_v (Da g n) (Asa F fun W G=>Bp (t:=decide ((i:Int)<(s.length:Int))) rfl (fun e=>?_) (fun e=>?_))
 ·have L:=Ee e
  refine Al (kk G ?_)
  refine Ai fun Y H=>Ao (w_q rfl rfl fun Z I=>l_v (Ah (v:=iV i) g) (Av (iV i) (Arx rfl rfl I fun N u=>l_v (Ah (v:=.string (bs s)) f) (Au (iV i) ?_))))
  obtain⟨b,c⟩:=Yl (p:=s) (i:=i) (by omega)
  have a1:=b.toNat_lt
  refine l_v (Fs (p:=s) i b Biy rfl (q:=(i:Int)) rfl rfl c) (l_v (Da rfl rfl) (Au (.bool (decide ((b.toNat:Int)<32))) (Cn (decide ((b.toNat:Int)<32)) (fun a=>?_) (fun a=>?_))))
  ·have J:=Ee a
   refine Ap (gN rfl a) (Ap (gN rfl a) (Ap (gN rfl a) (Ap (gN rfl a) (l_v (Bt rfl a (v:=bT) rfl) (l_k u (Co rfl rfl (w_q rfl rfl fun O y=>Av bF (l_k y (Aq (k (rT bF ?_)))))))))))
   rw[Apl c (by omega)]
  have J:=Fv a
  refine Aa (gY rfl a) (Ah (v:=.string (bs s)) f) (l_M (iV i) (gY rfl a) rfl (Aa (gY rfl a) (Fs (p:=s) i b Biy rfl (q:=(i:Int)) rfl rfl c) (Aa (gY rfl a) (Gl (p:=(b.toNat:Int)) (q:=126) rfl rfl) (l_v (Bn rfl a (v:=.bool (decide ((b.toNat:Int)>126))) rfl) (l_k u (Bp (t:=decide ((b.toNat:Int)>126)) rfl (fun d=>?_) (fun d=>?_)))))))
  ·have K:=Ee d
   refine w_q rfl rfl fun P B=>Av bF (l_k B (Aq (k (rT bF ?_))))
   rw[Apl c (by omega)]
  have K:=Fv d
  refine Al (kk H ?_)
  refine Ag rfl rfl (l_v (Br g rfl (z:=(((i+1):Nat):Int)) wrE) (Au (iV ((i+1):Nat)) (Ac ?_)))
  refine⟨_,?_,(i+1),rfl,rfl,rfl,rfl,f,n,rfl,(by omega),(Eg w (Bgy c (by omega) (by omega))),trivial⟩
  omega
 have L:=Fv e
 refine Bx (kk D ?_)
 refine w_q rfl rfl fun R C=>Av bT (l_k C (Aq (k (rT bT ?_))))
 rw[Bbc fun j hj=>w j (by omega)]
theorem Xw{n:Nat}{s:List UInt8}(hn:n≤60000)(hb:s.length≤60000):CallsH (CX mn X) 53 #[iV n,.string (bs s)] ρ σ (rP ρ σ (iV ((Dr n s):Nat))):=by
 refine Ba 27 [4] Bjx rfl fun Q k T=>w_q rfl rfl fun H u=>Av (iV 0) (Arx rfl rfl u fun K y=>Au (iV n) (l_v (Wq rfl rfl (z:=(((7*n):Nat):Int)) wrE) (Av (iV ((7*n):Nat)) (Ary rfl rfl y fun L M B C=>Au (.string (bs s)) (l_v (Ce Biy (p:=s) rfl) (Au (iV 0) (l_k C (Ao (Cc (fun mm ee dd ρ' σ'=>∃(i:Nat) (a:Nat),(s.length-i)=mm∧[]=dd∧ρ=ρ'∧σ=σ'∧ee 1=(.string (bs s))∧ee 10=(iV (s.length:Int))∧ee 5=iV a∧ee 11=iV i∧(i≤s.length)∧(a=7*n+Wj (s.take i) 0)∧(a≤420000+24480*i)∧True) (m:=_) ⟨0,7*n,rfl,rfl,rfl,rfl,rfl,rfl,rfl,rfl,Oc _,rfl,(by omega),trivial⟩ ?_)))))))))
 rintro V R _ _ _ ⟨i,a,rfl,rfl,rfl,rfl,e,f,g,d,W,j,Y,_⟩
 refine w_q rfl rfl fun N D=>l_v (Da d f) (Asa D fun O E=>Bp (t:=decide ((i:Int)<(s.length:Int))) rfl (fun c=>?_) (fun c=>?_))
 ·have G:=Ee c
  refine Al (kk E ?_)
  refine Ai fun P F=>Ao (w_q rfl rfl fun I w=>l_v (Ah (v:=iV i) d) (Av (iV i) (l_k w (Ag rfl rfl (l_v (Ah (v:=iV a) g) (l_v (Ah (v:=.string (bs s)) e) (Au (iV i) ?_)))))))
  obtain⟨b,h⟩:=Yl (p:=s) (i:=i) (by omega)
  have U:=b.toNat_lt
  have hm:=Baw b i
  refine l_v (Fs (p:=s) i b Biy rfl (q:=(i:Int)) rfl rfl h) (l_v (Acf (p:=(b.toNat:Int)) (z:=(b.toNat:Int)) Bje Bjd rfl wrR) (Au (iV i) (l_v (Ayq (p:=(i:Int)) (q:=96) rfl rfl (by omega) (z:=(((i%96):Nat):Int)) rfl) (l_v (Br rfl rfl (z:=((((i%96)+1):Nat):Int)) wrE) (l_v (Wq rfl rfl (z:=(((b.toNat*((i%96)+1)):Nat):Int)) wrE) (l_v (Br rfl rfl (z:=(((a+(b.toNat*((i%96)+1))):Nat):Int)) wrE) (Av (iV (((a+(b.toNat*((i%96)+1))):Nat):Int)) (l_k F (Ag rfl rfl (l_v (Br d rfl (z:=(((i+1):Nat):Int)) wrE) (Au (iV ((i+1):Nat)) (Ac ?_))))))))))))
  refine⟨_,?_,(i+1),(a+(b.toNat*((i%96)+1))),rfl,rfl,rfl,rfl,e,f,rfl,rfl,(by omega),(by rw[Asx h,j,Nat.add_assoc]),(by omega),trivial⟩
  omega
 have G:=Fv c
 refine Bx (kk B ?_)
 refine w_q rfl rfl fun J x=>l_v (Ah (v:=iV a) g) (l_v (Ayq (p:=(a:Int)) (q:=97) rfl rfl (by omega) (z:=(((a%97):Nat):Int)) rfl) (Av (iV ((a%97):Nat)) (l_k x (Aq (k (rT (iV ((a%97):Nat)) ?_))))))
 have hi:i=s.length:=by omega
 rw[j,hi,Qs];rfl
end
end Go.Proofs.YtdkahgpemgjidaaGreatDoor
