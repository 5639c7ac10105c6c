/- Part 2 of what all laws of layer 8 need: a logic of programs that start goroutines, and what the functions yield. -/
import Derived.Test.YtjdkajkimeainaaGreatDoorB1
import Derived.Carry
import Derived.ChangeArms
import Derived.ChangeSame
import Derived.ChangeVars
import Derived.Conc.Holds
import Derived.Conc.LeavingOf
import Derived.Conc.Quits
import Derived.FnData
import Derived.KernelRfl
import Derived.LaidHandle
import Derived.LaidLaws
import Derived.LaidMore
import Derived.Lib.Bytealg
import Derived.OpenShut
import Derived.RowKit
import Derived.SevenTiedAt
import Derived.SizedLaws
import Derived.Stop.Joined
import Derived.Test.YtjdkajkimeainaaGreatDoorCards
import Derived.Test.YtjdkajkimeainaaGreatDoorRows
import Derived.Test.YtjdkajkimeainaaGreatDoorTie
import Derived.WideShapes
set_option linter.unusedVariables false
set_option linter.unusedSimpArgs false
set_option maxRecDepth 100000
set_option maxHeartbeats 4000000
namespace Go.Proofs.YtjdkajkimeainaaGreatDoor
section
open Go Go.Conc Go.RowKit
open Go.ConcN (sumTo sumTo_upd upd_ne upd_same)
section
variable{P:Program}{W0:World}{fr:Frame}{cs:List Frame}{ρ:Ro}{σ:Own}{c k r:Nat}{l:List WK}{B:List (Nat×Value)}{A0 S0:Nat→Prop}{mp:Option (Value×Bool)}
 {gs:Array Goroutine} {w:World} {t:Trace} {q:Nat→Nat}
/-- A leaver's step. -/
theorem PhN.leave{i n:Nat}{g g':Goroutine}(h:PhN P W0 fr cs ρ σ c k l B r A0 S0 mp gs w t q)(hi:gs[i]?=some g)(hi0:i≠0)(hil:∀x∈l,x.j=i→∃v ρw p,x.st = .sent v ρw p)(hq:QuitsIn P n g') :
  PhN P W0 fr cs ρ σ c k l B r A0 S0 mp ((gs.map (woken P g g' w)).setIfInBounds i g') w t (Go.ConcN.upd q i n):=by
 obtain⟨cap,tm,hh,_⟩:=h.ch
 exact { h with
  g0:=fun e=>by
   obtain⟨x,hx,his⟩:=h.g0 e
   exact⟨x,by rw[Ei (Ne.symm hi0) hx,Fo (.inl his.1)],his⟩
  g0p:=fun z f e=>by
   obtain⟨d,u⟩:=h.g0p z f e
   exact⟨by rw[Ei (Ne.symm hi0) d,woken_recv_open _ _ hh],u⟩
  oth:=fun m x hm C hx=>by
   rcases Jv hx with⟨rfl,rfl⟩|⟨hni,y,hy,rfl⟩
   ·rw[upd_same];exact hq
   ·have:=h.oth m y hm C hy
    rw[Fo this.status,upd_ne q n hni];exact this
  jl:=fun x hx=>by simpa using h.jl x hx
  run:=fun x hx fw cw ρw σw e=>{ h.run x hx fw cw ρw σw e with
   g:=by
    obtain⟨y,hy,his⟩:=(h.run x hx fw cw ρw σw e).g
    have hj:x.j≠i:=fun b=>by
     obtain⟨v,D,p,a⟩:=hil x hx b
     rw[e]at a;cases a
    exact⟨y,by rw[Ei hj hy,Fo (.inl his.1)],his⟩ } }
/-- What the first goroutine holds,told otherwise. -/
theorem PhN.ghost{ρ':Ro}{σ':Own}(hg:Ghost ρ σ ρ' σ')(hne:l≠[])(h:PhN P W0 fr cs ρ σ c k l B r A0 S0 mp gs w t q):PhN P W0 fr cs ρ' σ' c k l B r A0 S0 mp gs w t q:=by
 have hc':(c,Res.crowd k (l.map (·.R)))∈σ':=hg.crowdsKept _ _ _ (by simpa using hne) h.hc
 have hcc:∀o,(c,Res.obj o)∉σ:=fun o ho=>by have:=h.sat.uniq ho h.hc;cases this
 exact { h with
  sat:=hg.sat _ h.sat
  hc:=hc'
  one:=fun c' k' Rs' hx hn=>h.one c' k' Rs' (hg.crowds _ _ _ hx) hn
  nr:=fun c' vs hx=>h.nr c' vs ((hg.ends _ _).1 hx)
  newk:=fun b hb=>h.newk b (hg.keys b hb)
  am:=fun b x hb hbc=>by
   have:=hg.keys b (Du hb)
   obtain⟨⟨b',y⟩,hy,e⟩:=Iu.1 this
   simp only at e;subst e
   exact h.am _ y hy hbc
  rm:=fun b hb=>(hg.dom b hb).elim (h.rm b) fun⟨o,ho⟩=>.inr (h.am b _ ho fun e=>hcc o (e ▸ ho)) }
/-- What a worker holds,told otherwise. -/
theorem PhN.ghostw{i:Nat}{x:WK}{fw:Frame}{cw:List Frame}{ρw ρw':Ro}{σw σw':Own}(hg:Ghost ρw σw ρw' σw')(h:PhN P W0 fr cs ρ σ c k l B r A0 S0 mp gs w t q)(hi:l[i]?=some x)(hst:x.st = .run fw cw ρw σw) :
    PhN P W0 fr cs ρ σ c k (l.set i {x with st:=.run fw cw ρw' σw'}) B r A0 S0 mp gs w t q:=by
  have hxl:x∈l:=lZ6 hi
  have hR:=h.run x hxl fw cw ρw σw hst
  have hm:∀{y},y∈l.set i {x with st:=.run fw cw ρw' σw'}→y={x with st:=.run fw cw ρw' σw'}∨(y∈l∧y.j≠x.j):=fun hy=>Afe h.jn hi hy
  have hmj:(l.set i {x with st:=.run fw cw ρw' σw'}).map (·.j)=l.map (·.j):=Oq hi rfl
  have hmR:(l.set i {x with st:=.run fw cw ρw' σw'}).map (·.R)=l.map (·.R):=Oq hi rfl
  exact { h with
    oth:=fun m y F D hy=>h.oth m y F (fun z hz e=>by
      by_cases hzx:z.j=x.j
      · obtain⟨v,C,p,d⟩:=D _ (Gw hi) (hzx.symm.trans e)
        cases d
      · exact D z (Gz hi hz hzx) e) hy
    j0:=fun y hy=>by rcases hm hy with rfl|⟨hy,_⟩<;>first|exact h.j0 x hxl|exact h.j0 y hy
    jl:=fun y hy=>by rcases hm hy with rfl|⟨hy,_⟩<;>first|exact h.jl x hxl|exact h.jl y hy
    jn:=by rw[hmj];exact h.jn
    run:=fun y hy H G I J e=>by
      rcases hm hy with rfl|⟨hy,hj⟩
      · cases e
        exact { g := hR.g, sat := hg.sat _ hR.sat, newk := fun b hb => hR.newk b (hg.keys b hb), aw := fun b hb => hR.aw b (hg.keys b hb), kn := hR.kn
                rw_:=fun b hb=>(hg.dom b hb).elim (hR.rw_ b) fun⟨o,ho⟩=>.inr (hR.aw b (Du ho)) }
      · exact h.run y hy _ _ _ _ e
    sent:=fun y hy v C p e=>by
      rcases hm hy with rfl|⟨hy,hj⟩
      · cases e
      · exact h.sent y hy v C p e
    buf:=fun j v hb=>by
      obtain⟨y,hy,e,C,p,d⟩:=h.buf j v hb
      exact⟨y,Gz hi hy (fun ej=>by have:=Pr h.jn hy hxl ej;subst this;rw[hst]at d;cases d),e,C,p,d⟩
    ch:=by obtain⟨cap,tm,f,E⟩:=h.ch;exact⟨cap,tm,f,by simpa using E⟩
    hc:=by rw[hmR];exact h.hc
    ap:=fun y hy z hz hj b hb=>by
      rcases hm hy with rfl|⟨hy,hyj⟩<;>rcases hm hz with rfl|⟨hz,hzj⟩
      · exact absurd rfl hj
      · exact h.ap x hxl z hz hj b hb
      · exact h.ap y hy x hxl hj b hb
      · exact h.ap y hy z hz hj b hb
    a0:=fun y hy b hb=>by rcases hm hy with rfl|⟨hy,_⟩<;>first|exact h.a0 x hxl b hb|exact h.a0 y hy b hb
    ss:=fun y hy b hb=>by rcases hm hy with rfl|⟨hy,_⟩<;>first|exact h.ss x hxl b hb|exact h.ss y hy b hb
    nc:=⟨h.nc.1,h.nc.2.1,fun y hy f=>by rcases hm hy with rfl|⟨hy,_⟩<;>first|exact h.nc.2.2 x hxl f|exact h.nc.2.2 y hy f⟩
    lt:=fun b hb=>h.lt b (hb.imp id fun hb=>hb.imp id fun⟨y,hy,hb⟩=>by rcases hm hy with rfl|⟨hy,_⟩<;>first|exact⟨x,hxl,hb⟩|exact⟨y,hy,hb⟩)
    al:=fun n a ha hm'=>(h.al n a ha hm').imp id fun⟨y,hy,u⟩=>by
      by_cases hj:y.j=x.j
      · have:=Pr h.jn hy hxl hj
        subst this
        unfold AlOk at u
        rw[hst]at u
        exact⟨_,Gw hi,u⟩
      · exact⟨y,Gz hi hy hj,u⟩ }
/-- From one who is alone. -/
theorem PhA.toN(h:PhA P W0 fr cs ρ σ gs w t q)(hc:(c,Res.crowd k [])∈σ):∃r,PhN P W0 fr cs ρ σ c k [] [] r (fun b=>∃x,(b,x)∈σ∧b≠c) (fun b=>(ρ b).isSome=true) none gs w t q:=by
 obtain⟨cap,buf,s,r,tm,m,d,n⟩:=h.sat.own _ hc
 obtain⟨rfl,rfl⟩:=n rfl
 refine⟨s,{
  g0:=fun _=>h.g0
  g0p:=fun z f e=>by cases e
  oth:=fun i g hi _ hg=>h.oth i g hi hg
  j0:=fun x hx=>by cases hx
  jl:=fun x hx=>by cases hx
  jn:=Aiq
  run:=fun x hx=>by cases hx
  sent:=fun x hx=>by cases hx
  buf:=fun j v hx=>by cases hx
  bn:=Aiq
  ch:=⟨cap,tm,m,d⟩
  sat:=h.sat
  hc:=hc
  one:=fun c' k' Rs' hx hn=>absurd (h.nr.crowd c' k' Rs' hx) hn
  nr:=h.nr.recv
  newk:=h.newk
  below:=h.below
  am:=fun b x hb hbc=>⟨x,hb,hbc⟩
  rm:=fun b hb=>.inl hb
  ap:=fun x hx=>by cases hx
  a0:=fun x hx=>by cases hx
  ds:=fun b ⟨x,hb,_⟩ d=>by rw[h.sat.dj b (Du hb)]at d;cases d
  ss:=fun x hx=>by cases hx
  nc:=⟨fun⟨_,_,h⟩=>h rfl,by rw[h.sat.dj c (Du hc)];simp,fun x hx=>by cases hx⟩
  lt:=fun b hb=>by
   rcases hb with⟨x,hb,_⟩|hb|⟨x,hx,_⟩
   ·exact h.sat.key_lt (Du hb)
   ·obtain⟨o,ho⟩:=Atp.1 hb
    exact Dq (h.sat.ro b o ho).1
   ·cases hx
  wl:=h.tr.wl
  clean:=h.tr.clean
  k0:=fun i a ha hm=>.inl (h.tr.known i a ha hm)
  al:=fun i a ha hm=>.inl (h.tr.known i a ha hm) }⟩
/-- Nobody is left. -/
theorem PhN.toA(h:PhN P W0 fr cs ρ σ c k [] B r A0 S0 none gs w t q):PhA P W0 fr cs ρ σ gs w t q where
 g0:=h.g0 rfl
 oth:=fun i g hi hg=>h.oth i g hi (fun x hx=>by cases hx) hg
 sat:=h.sat
 nr:=⟨h.nr,fun c' k' Rs' hx=>by
  by_cases hn:Rs'=[]
  ·exact hn
  ·have e:=h.one c' k' Rs' hx hn
   subst e
   have:=h.sat.uniq hx h.hc
   injection this⟩
 newk:=h.newk
 below:=h.below
 tr:=⟨h.wl,h.clean,fun i a ha hm=>(h.al i a ha hm).resolve_right fun⟨x,hx,_⟩=>by cases hx⟩
/-- A GO STATEMENT. -/
theorem PhN.fork{d:Deferred}{i:Nat}{fr':Frame}{R:Value→Ro→Prop}{fn fn':FuncId}{pos pos':String}(h:PhN P W0 fr cs ρ σ c (k+1) l B r A0 S0 none gs w t q)(hi:σ[i]?=some (c,Res.crowd (k+1) (l.map (·.R))))
    {x:WK} (hx:x=⟨gs.size,R,fun _=>False,fun b=>(ρ b).isSome=true,.run (Gg P d) [] ρ []⟩) :
    PhN P W0 fr' cs ρ (σ.set i (c,.crowd k ((l++[x]).map (·.R)))) c k (l++[x]) B r (fun b=>A0 b∧(ρ b).isSome=false) (fun b=>S0 b∨(ρ b).isSome=true) none
      ((gs.setIfInBounds 0 (G fr' cs)).push (G (Gg P d) [])) w ((t.push {g:=0,fn:=fn,pos:=pos,act:=.go gs.size}).push {g:=gs.size,fn:=fn',pos:=pos',act:=.start}) q:=by
  obtain⟨g,hg,his⟩:=h.g0 rfl
  have hsz:0<gs.size:=(Aan.1 hg).1
  obtain⟨V,E,M,W⟩:=Bfv (j:=gs.size) h.wl (x:={g:=0,fn:=fn,pos:=pos,act:=.go gs.size}) (y:={g:=gs.size,fn:=fn',pos:=pos',act:=.start}) ⟨rfl,rfl⟩ ⟨rfl,rfl⟩
  have I:=Tt (r':=Res.crowd k ((l++[x]).map (·.R))) hi
  have H:∀p,p∈σ.set i (c,Res.crowd k ((l++[x]).map (·.R)))→p=(c,.crowd k ((l++[x]).map (·.R)))∨(p∈σ∧p.1≠c):=fun p hp=>Gq hi h.sat.nd hp
  have T:(c,Res.crowd k ((l++[x]).map (·.R)))∈σ.set i (c,.crowd k ((l++[x]).map (·.R))):=by
    have hlt:i<σ.length:=by
      rcases Mg i σ.length with h'|h'
      · exact h'
      · rw[Og h']at hi;cases hi
    exact lZ6 (i:=i) (by rw[Rk];simp[hlt])
  have L:∀m y,m<gs.size→m≠0→(((gs.setIfInBounds 0 (G fr' cs)).push (G (Gg P d) []))[m]?=some y↔gs[m]?=some y):=fun m y hm O=>by
    rw[Atr]
    simp only[Aqd,Zt hm,if_false]
    rw[Ayz (Ne.symm O)]
  have hml:∀{y},y∈l++[x]→y∈l∨y=x:=fun hy=>by
    rcases Fb.1 hy with hy|hy
    · exact .inl hy
    · exact .inr (Lc.1 hy)
  have hj:∀y∈l,y.j≠x.j:=fun y hy e=>by subst hx;exact absurd (h.jl y hy) (by rw[e];exact Nat.lt_irrefl _)
  have hcr:ρ c=none:=h.sat.dj c (Du h.hc)
  obtain⟨cap,tm,hch,X⟩:=h.ch
  have hxj:x.j=gs.size:=by rw[hx]
  have hxA:∀b,¬x.A b:=fun b hb=>by rw[hx]at hb;exact hb
  have hxS:∀b,x.S b↔(ρ b).isSome=true:=fun b=>by rw[hx]
  rw[M]
  exact {
    g0:=fun _=>⟨G fr' cs,by rw[Atr];simp only[Aqd,Zt hsz,if_false];exact Fq hg,Is.of _ _⟩
    g0p:=fun z f e=>by cases e
    oth:=fun m y hm J hy=>by
      by_cases hms:m=gs.size
      · obtain⟨v,N,p,e⟩:=J x (by simp) (by rw[hxj,hms])
        rw[hx]at e;cases e
      · have hlt:m<gs.size:=by
          have:=(Aan.1 hy).1
          simp only[Array.size_push,Aqd]at this
          omega
        exact h.oth m y hm (fun z hz e=>J z (Lb _ hz) e) ((L m y hlt hm).1 hy)
    j0:=fun y hy=>by
      rcases hml hy with hy|rfl
      · exact h.j0 y hy
      · rw[hxj];omega
    jl:=fun y hy=>by
      simp only[Array.size_push,Aqd]
      rcases hml hy with hy|rfl
      · exact Apy (h.jl y hy)
      · rw[hxj];omega
    jn:=by
      rw[Ir,Aav]
      refine⟨h.jn,by simp,fun a ha b hb e=>?_⟩
      obtain⟨y,hy,rfl⟩:=Iu.1 ha
      have hb':b=x.j:=by simpa using hb
      exact hj y hy (e.trans hb')
    run:=fun y hy fw cw ρw σw e=>by
      rcases hml hy with hy|rfl
      · have z:=h.run y hy fw cw ρw σw e
        exact { g := by
                  obtain⟨u,hu,hi⟩:=z.g
                  exact⟨u,(L _ _ (h.jl y hy) (h.j0 y hy)).2 hu,hi⟩
                sat:=z.sat,newk:=z.newk,aw:=z.aw,rw_:=z.rw_,kn:=z.kn.other (Et _) (Jm E) }
      · rw[hx]at e;cases e
        refine⟨⟨G (Gg P d) [],by rw[hxj,Atr];simp,Is.of _ _⟩,⟨h.sat.ro,fun p hp=>absurd hp Rl,Aiq,fun b hb=>absurd hb Rl⟩,fun b hb=>(by cases hb),fun b hb=>(by cases hb),fun b hb=>.inl ((hxS b).2 hb),?_⟩
        intro n a ha hm
        rcases h.k0 n a (Wz ha E) hm with C|C
        · exact .inl (by rw[hxj];exact W n C)
        · refine .inr (C.mono (Et _) (fun p ⟨b,_,hb⟩=>absurd hb (hxA b)) fun p ⟨b,K,hb⟩=>?_)
          exact(h.rm b ((hxS b).1 hb)).elim (fun D=>.inr ⟨b,K,D⟩) fun D=>.inl ⟨b,K,D⟩
    sent:=fun y hy v N p e=>by
      rcases hml hy with hy|rfl
      · exact(h.sent y hy v N p e).kept (fun b _=>rfl) (Et _) (Jm E)
      · rw[hx]at e;cases e
    buf:=fun j v hb=>by
      obtain⟨y,hy,e⟩:=h.buf j v hb
      exact⟨y,Lb _ hy,e⟩
    bn:=h.bn
    ch:=⟨cap,tm,hch,by simp only[lZ1,Qq];omega⟩
    sat:=by
      refine⟨h.sat.ro,fun p hp=>?_,by rw[I];exact h.sat.nd,by rw[I];exact h.sat.dj⟩
      rcases H p hp with rfl|⟨hp',_⟩
      · exact⟨cap,_,_,_,tm,hch,by simp only[Aax,lZ1,Qq];omega,fun e=>by simp at e⟩
      · exact h.sat.own p hp'
    hc:=T
    one:=fun c' k' Rs' hc' hn=>by
      rcases H _ hc' with e|⟨hc'',_⟩
      · injection e
      · exact h.one c' k' Rs' hc'' hn
    nr:=fun c' vs hc'=>by
      rcases H _ hc' with e|⟨hc'',_⟩
      · cases e
      · exact h.nr c' vs hc''
    newk:=by rw[I];exact h.newk
    below:=h.below
    am:=fun b y hb hbc=>by
      rcases H _ hb with e|⟨hb',_⟩
      · injection e with e _;exact absurd e hbc
      · exact⟨h.am b y hb' hbc,by rw[h.sat.dj b (Du hb')];rfl⟩
    rm:=fun b hb=>.inl (.inr hb)
    ap:=fun y hy z hz hne b hb=>by
      rcases hml hy with hy'|e
      · rcases hml hz with hz'|e
        · exact h.ap y hy' z hz' hne b hb
        · rw[e];exact⟨hxA b,fun C=>(h.rm b ((hxS b).1 C)).elim (h.a0 y hy' b hb).2 (h.a0 y hy' b hb).1⟩
      · rw[e]at hb;exact absurd hb (hxA b)
    a0:=fun y hy b hb=>by
      rcases hml hy with hy|rfl
      · exact⟨fun C=>(h.a0 y hy b hb).1 C.1,fun C=>C.elim (h.a0 y hy b hb).2 fun C=>(h.rm b C).elim (h.a0 y hy b hb).2 (h.a0 y hy b hb).1⟩
      · exact absurd hb (hxA b)
    ds:=fun b hb C=>C.elim (h.ds b hb.1) fun C=>by rw[hb.2]at C;cases C
    ss:=fun y hy b hb=>by
      rcases hml hy with hy|rfl
      · exact .inl (h.ss y hy b hb)
      · exact .inr ((hxS b).1 hb)
    nc:=⟨fun C=>h.nc.1 C.1,fun C=>C.elim h.nc.2.1 (fun C=>by rw[hcr]at C;cases C),fun y hy C=>by
      rcases hml hy with hy|rfl
      · exact h.nc.2.2 y hy C
      · exact hxA c C⟩
    lt:=fun b hb=>by
      rcases hb with hb|(hb|hb)|⟨y,hy,hb⟩
      · exact h.lt b (.inl hb.1)
      · exact h.lt b (.inr (.inl hb))
      · exact(h.rm b hb).elim (fun C=>h.lt b (.inr (.inl C))) fun C=>h.lt b (.inl C)
      · rcases hml hy with hy|rfl
        · exact h.lt b (.inr (.inr ⟨y,hy,hb⟩))
        · exact absurd hb (hxA b)
    wl:=by rw[←M];exact V
    clean:=fun U=>Ni (h.clean U) E
    k0:=(h.k0.mono (Et _) (fun p ⟨b,C,D⟩=>⟨b,C,D.1⟩) fun p ⟨b,C,D⟩=>by
      rcases D with D|D
      · exact .inr ⟨b,C,D⟩
      · exact(h.rm b D).elim (fun F=>.inr ⟨b,C,F⟩) fun F=>.inl ⟨b,C,F⟩).other (Et _) (Jm E)
    al:=fun n a ha hm=>(h.al n a (Wz ha E) hm).imp (·.app _) fun⟨y,hy,F⟩=>⟨y,Lb _ hy,F.app _⟩ }
/-- A SEND that finds room. -/
theorem PhN.send{i n:Nat}{x:WK}{fw:Frame}{cw:List Frame}{ρw:Ro}{σw:Own}{v:Value}{cap:Nat}{tm:Bool}{fn fn':FuncId}{pos pos':String}(h:PhN P W0 fr cs ρ σ c k l B r A0 S0 none gs w t q)(hi:l[i]?=some x)
  (hst:x.st = .run fw cw ρw σw) (hv:x.R v ρw) (hq:QuitsIn P n (Conc.served (G fw cw) undef)) (hcap:k+l.length≤cap) :
  PhN P W0 fr cs ρ σ c k (l.set i {x with st:=.sent v ρw t.size}) (B++[(x.j,v)]) r A0 S0 none (gs.setIfInBounds x.j (Conc.served (G fw cw) undef)) (w.setChan c cap ((B.map Prod.snd).toArray.push v) false (r+B.length+1) r tm)
   (t ++ #[{g:=x.j,fn:=fn,pos:=pos,act:=.send c (r+B.length)},{g:=x.j,fn:=fn',pos:=pos',act:=.sendDone c (r+B.length)}]) (Go.ConcN.upd q x.j n):=by
 have hxl:x∈l:=lZ6 hi
 have hR:=h.run x hxl fw cw ρw σw hst
 obtain⟨V,Y,hch,_⟩:=h.ch
 have N:c<w.heap.size:=Dq hch
 have hcW:W0.heap.size≤c:=h.newk c (Du h.hc)
 generalize hu:(#[{g:=x.j,fn:=fn,pos:=pos,act:=.send c (r+B.length)},{g:=x.j,fn:=fn',pos:=pos',act:=.sendDone c (r+B.length)}]:Trace)=u
 have E:∀op∈u,op.act.touch?=none:=fun op hop=>by
  subst hu
  simp only[Ahn,lZ8,Rl,or_false]at hop
  rcases hop with rfl|rfl<;>rfl
 have hwl:Wordless u:=fun op hop m hm=>by
  subst hu
  simp only[Ahn,lZ8,Rl,or_false]at hop
  rcases hop with rfl|rfl<;>cases hm
 have hat:(t++u)[t.size]?=some {g:=x.j,fn:=fn,pos:=pos,act:=.send c (r+B.length)}:=by rw[Aen (Et _)];subst hu;simp
 have hsz:(w.setChan c cap ((B.map Prod.snd).toArray.push v) false (r+B.length+1) r tm).heap.size=w.heap.size:=by simp[World.setChan]
 have hne:∀b,b≠c→(w.setChan c cap ((B.map Prod.snd).toArray.push v) false (r+B.length+1) r tm).heap[b]?=w.heap[b]?:=fun b hb=>Fi hb
 have hm:∀{y},y∈l.set i {x with st:=.sent v ρw t.size}→y={x with st:=.sent v ρw t.size}∨(y∈l∧y.j≠x.j):=fun hy=>Afe h.jn hi hy
 have hmj:(l.set i {x with st:=.sent v ρw t.size}).map (·.j)=l.map (·.j):=Oq hi rfl
 have hmR:(l.set i {x with st:=.sent v ρw t.size}).map (·.R)=l.map (·.R):=Oq hi rfl
 have H:∀y∈l,∀b,y.A b∨y.S b→b≠c:=fun y hy b hb e=>by
  subst e
  rcases hb with hb|hb
  ·exact h.nc.2.2 y hy hb
  ·exact h.nc.2.1 (h.ss y hy _ hb)
 have hBn:x.j∉B.map Prod.fst:=fun hb=>by
  obtain⟨⟨j,v'⟩,hb,e⟩:=Iu.1 hb
  obtain⟨y,hy,d,F,p,I⟩:=h.buf j v' hb
  have:=Pr h.jn hy hxl (d.trans e)
  subst this
  rw[hst]at I;cases I
 have hsn:(w.setChan c cap ((B.map Prod.snd).toArray.push v) false (r+B.length+1) r tm).heap[c]?=some (.chan cap ((B++[(x.j,v)]).map Prod.snd).toArray false (r+(B++[(x.j,v)]).length) r tm):=by
  rw[Hq N]
  simp only[Ir,Hd,List.map_nil,lZ1,Qq,List.push_toArray,Aqb]
 exact {
  g0:=fun e=>by
   obtain⟨y,hy,hi⟩:=h.g0 e
   exact⟨y,by rw[Dw (Ne.symm (h.j0 x hxl))];exact hy,hi⟩
  g0p:=fun z f e=>by cases e
  oth:=fun m y O M hy=>by
   rcases get_set hy with⟨rfl,rfl⟩|⟨hmx,hy⟩
   ·rw[upd_same];exact hq
   ·rw[upd_ne q n hmx]
    exact h.oth m y O (fun z hz e=>M z (Gz hi hz (by rw[e];exact hmx)) e) hy
  j0:=fun y hy=>by rcases hm hy with rfl|⟨hy,_⟩<;>first|exact h.j0 x hxl|exact h.j0 y hy
  jl:=fun y hy=>by
   simp only[Aqd]
   rcases hm hy with rfl|⟨hy,_⟩<;>first|exact h.jl x hxl|exact h.jl y hy
  jn:=by rw[hmj];exact h.jn
  run:=fun y hy X W Z a1 e=>by
   rcases hm hy with rfl|⟨hy,hj⟩
   ·cases e
   ·refine(h.run y hy _ _ _ _ e).kept ?_ (fun b hb=>hne b (H y hy b hb)) (Aej hsz.symm) (Jm E)
    obtain⟨z,hz,hi⟩:=(h.run y hy _ _ _ _ e).g
    exact⟨z,by rw[Dw hj];exact hz,hi⟩
  sent:=fun y hy U F p e=>by
   rcases hm hy with rfl|⟨hy,hj⟩
   ·cases e
    refine⟨hv,fun b o hb=>?_,hR.rw_,?_,B.length,_,by simp,hat,rfl⟩
    ·rw[hne b (H x hxl b (hR.rw_ b (by rw[hb];rfl)).symm)];exact hR.sat.ro b o hb
    ·rw[hsz];exact hR.kn.told E (Et _) hat rfl
   ·have z:=(h.sent y hy U F p e).kept (w':=w.setChan c cap ((B.map Prod.snd).toArray.push v) false (r+B.length+1) r tm) (fun b hb=>hne b (H y hy b hb)) (Aej hsz.symm) (Jm E)
    obtain⟨m,op,C,K,D⟩:=z.at_
    have hlt:m<B.length:=by
     rcases Mg m B.length with h'|h'
     ·exact h'
     ·rw[Og h']at C;cases C
    exact⟨z.val,z.sat,z.rw_,z.kp,m,op,by rw[Ahm hlt];exact C,K,D⟩
  buf:=fun j v' hb=>by
   rcases Fb.1 hb with hb|hb
   ·obtain⟨y,hy,e,F,p,d⟩:=h.buf j v' hb
    exact⟨y,Gz hi hy (fun ej=>by have:=Pr h.jn hy hxl ej;subst this;rw[hst]at d;cases d),e,F,p,d⟩
   ·have e:(j,v')=(x.j,v):=by simpa using hb
    injection e with e1 d
    subst e1 d
    exact⟨_,Gw hi,rfl,ρw,t.size,rfl⟩
  bn:=by
   rw[Ir,Aav]
   refine⟨h.bn,by simp,fun a ha b hb e=>?_⟩
   have hb':b=x.j:=by simpa using hb
   exact hBn (hb' ▸ e ▸ ha)
  ch:=⟨cap,tm,hsn,by simpa using hcap⟩
  sat:=by
   refine⟨fun b o hb=>?_,fun p hp=>?_,h.sat.nd,h.sat.dj⟩
   ·have hbc:b≠c:=fun e=>by
     have:=h.sat.dj c (Du h.hc)
     rw[←e,hb]at this;cases this
    rw[hne b hbc];exact h.sat.ro b o hb
   ·have hf:=h.sat.own p hp
    obtain⟨b,y⟩:=p
    by_cases hbc:b=c
    ·subst hbc
     have e:=h.sat.uniq hp h.hc
     subst e
     exact⟨cap,_,_,_,tm,hsn,by simpa using hcap,fun e=>by
      have:l=[]:=by simpa using e
      rw[this]at hxl;cases hxl⟩
    ·exact Res.fits_of hf (hne b hbc)
  hc:=by rw[hmR];exact h.hc
  one:=h.one
  nr:=h.nr
  newk:=h.newk
  below:=⟨h.below.os,h.below.tape,h.below.output,by rw[hsz];exact h.below.size,fun m hm=>by rw[hne m (by omega)];exact h.below.block m hm⟩
  am:=h.am
  rm:=h.rm
  ap:=fun y hy z hz hj b hb=>by
   rcases hm hy with rfl|⟨hy,hyj⟩<;>rcases hm hz with rfl|⟨hz,hzj⟩
   ·exact absurd rfl hj
   ·exact h.ap x hxl z hz hj b hb
   ·exact h.ap y hy x hxl hj b hb
   ·exact h.ap y hy z hz hj b hb
  a0:=fun y hy b hb=>by rcases hm hy with rfl|⟨hy,_⟩<;>first|exact h.a0 x hxl b hb|exact h.a0 y hy b hb
  ds:=h.ds
  ss:=fun y hy b hb=>by rcases hm hy with rfl|⟨hy,_⟩<;>first|exact h.ss x hxl b hb|exact h.ss y hy b hb
  nc:=⟨h.nc.1,h.nc.2.1,fun y hy C=>by rcases hm hy with rfl|⟨hy,_⟩<;>first|exact h.nc.2.2 x hxl C|exact h.nc.2.2 y hy C⟩
  lt:=fun b hb=>by
   rw[hsz]
   exact h.lt b (hb.imp id fun hb=>hb.imp id fun⟨y,hy,hb⟩=>by rcases hm hy with rfl|⟨hy,_⟩<;>first|exact⟨x,hxl,hb⟩|exact⟨y,hy,hb⟩)
  wl:=h.wl.append hwl
  clean:=fun T=>Ni (h.clean T) E
  k0:=h.k0.other (Aej hsz.symm) (Jm E)
  al:=fun m a ha hm'=>(h.al m a (Wz ha E) hm').imp (·.app _) fun⟨y,hy,D⟩=>by
   by_cases hj:y.j=x.j
   ·have:=Pr h.jn hy hxl hj
    subst this
    unfold AlOk at D
    rw[hst]at D
    obtain⟨op,J,L⟩:=D
    have hlt:=lt_size_of_getElem? J
    exact⟨_,Gw hi,.inr (hb_po hlt (by rw[getElem?_append_old hlt];exact J) hat L)⟩
   ·exact⟨y,Gz hi hy hj,D.app _⟩ }
theorem Pt{β:Type}{f:WK→β}{i:Nat}:(l.eraseIdx i).map f=(l.map f).eraseIdx i:=by
 induction l generalizing i with
 | nil=>simp
 | cons a l ih=>cases i with
  | zero=>rfl
  | succ i=>simp only[List.eraseIdx_cons_succ,Hd,ih]
/-- A RECEIVE: a worker's value comes to the first goroutine. -/
theorem PhN.take{i i0 p q0:Nat}{x:WK}{rv:Value}{ρw:Ro}{B':List (Nat×Value)}{cap:Nat}{tm:Bool}{gs':Array Goroutine}{u:Trace}{q':Nat→Nat}{y0:MemOp}(h:PhN P W0 fr cs ρ σ c k l B r A0 S0 mp gs w t q)(hi:l[i]?=some x)
  (hi0:σ[i0]?=some (c,Res.crowd k (l.map (·.R)))) (hcap:k+l.length≤cap) (hsw:∀b o,ρw b=some o→w.heap[b]?=some o∧o.isChan=false) (hrw:∀b,(ρw b).isSome=true→x.S b∨x.A b)
  (hkp:KPt (t++u) p w.heap.size (BL x.A) (BL x.S)) (hmute:∀op∈u,op.act.touch?=none) (hwl:Wordless u) (hy0:(t++u)[q0]?=some y0) (hy0g:y0.g=0) (hpq:HappensBefore (t++u) p q0) (hal:∀m,AlOk t m x→Before (t++u) m p)
  (hB:(B=[]∧B'=[])∨∃v',B=(x.j,v')::B') (hg0:∃g,gs'[0]?=some g∧Is g (fr.finish rv) cs) (hgs:gs'.size=gs.size) (hgo:∀m,m≠0→m≠x.j→gs'[m]?=gs[m]?)
  (hq:∀g,gs'[x.j]?=some g→QuitsIn P (q' x.j) g) (hqo:∀m,m≠x.j→q' m=q m) :
  ∃ρ',Ro.le ρ ρ'∧Ro.le ρw ρ'∧PhN P W0 (fr.finish rv) cs ρ' (σ.set i0 (c,.crowd k ((l.eraseIdx i).map (·.R)))) c k (l.eraseIdx i) B' (r+1) (fun b=>A0 b∨x.A b) S0 none gs' (w.setChan c cap (B'.map Prod.snd).toArray false (r+1+B'.length) (r+1) tm) (t++u) q':=by
 have hxl:x∈l:=lZ6 hi
 obtain⟨X,a2,hch,_⟩:=h.ch
 have G:c<w.heap.size:=Dq hch
 have hcW:W0.heap.size≤c:=h.newk c (Du h.hc)
 have hsz:(w.setChan c cap (B'.map Prod.snd).toArray false (r+1+B'.length) (r+1) tm).heap.size=w.heap.size:=by simp[World.setChan]
 have hne:∀b,b≠c→(w.setChan c cap (B'.map Prod.snd).toArray false (r+1+B'.length) (r+1) tm).heap[b]?=w.heap[b]?:=fun b hb=>Fi hb
 have hm:∀{y},y∈l.eraseIdx i→y∈l∧y.j≠x.j:=fun hy=>Atw h.jn hi hy
 have H:∀y∈l,∀b,y.A b∨y.S b→b≠c:=fun y hy b hb e=>by
  subst e
  rcases hb with hb|hb
  ·exact h.nc.2.2 y hy hb
  ·exact h.nc.2.1 (h.ss y hy _ hb)
 have F:=Tt (r':=Res.crowd k ((l.eraseIdx i).map (·.R))) hi0
 have C:∀z,z∈σ.set i0 (c,Res.crowd k ((l.eraseIdx i).map (·.R)))→z=(c,.crowd k ((l.eraseIdx i).map (·.R)))∨(z∈σ∧z.1≠c):=fun z hz=>Gq hi0 h.sat.nd hz
 have O:(c,Res.crowd k ((l.eraseIdx i).map (·.R)))∈σ.set i0 (c,.crowd k ((l.eraseIdx i).map (·.R))):=by
  have hlt:i0<σ.length:=by
   rcases Mg i0 σ.length with h'|h'
   ·exact h'
   ·rw[Og h']at hi0;cases hi0
  exact lZ6 (i:=i0) (by rw[Rk];simp[hlt])
 have a1:(l.eraseIdx i).length≤l.length:=List.length_eraseIdx_le _ _
 have hBm:∀e,e∈B'→e∈B∧e.1≠x.j:=fun e he=>by
  rcases hB with⟨_,n⟩|⟨v',d⟩
  ·rw[n]at he;cases he
  ·refine⟨by rw[d];exact lZ0 _ he,fun ej=>?_⟩
   have:=h.bn
   rw[d,Hd,Ol]at this
   exact this.1 (by simp only;rw[←ej];exact Ml (f:=Prod.fst) he)
 let ρ':Ro:=fun b=>match ρ b with|some o=>some o|none=>ρw b
 have M:Ro.le ρ ρ':=fun b o hb=>by show (match ρ b with|some o=>some o|none=>ρw b)=some o;rw[hb]
 have N:Ro.le ρw ρ':=fun b o hb=>by
  show (match ρ b with|some o=>some o|none=>ρw b)=some o
  cases hr:ρ b with
  | none=>exact hb
  | some o' =>
   have d:=(h.sat.ro b o' hr).1
   rw[(hsw b o hb).1]at d
   exact d.symm
 have hρ:∀b o,ρ' b=some o→ρ b=some o∨ρw b=some o:=fun b o hb=>by
  change (match ρ b with|some o=>some o|none=>ρw b)=some o at hb
  cases hr:ρ b with
  | none=>rw[hr]at hb;exact .inr hb
  | some o'=>rw[hr]at hb;exact .inl hb
 have hρd:∀b,(ρ' b).isSome=true→S0 b∨A0 b∨x.A b:=fun b hb=>by
  obtain⟨o,ho⟩:=Atp.1 hb
  rcases hρ b o ho with d|d
  ·exact(h.rm b (by rw[d];rfl)).imp id .inl
  ·exact(hrw b (by rw[d];rfl)).imp (h.ss x hxl b) .inr
 have hnc:∀b o,ρ' b=some o→b≠c:=fun b o hb e=>by
  subst e
  rcases hρd _ (by rw[hb];rfl) with d|d|d
  ·exact h.nc.2.1 d
  ·exact h.nc.1 d
  ·exact h.nc.2.2 x hxl d
 refine⟨ρ',M,N,{
  g0:=fun _=>hg0
  g0p:=fun z f e=>by cases e
  oth:=fun m y I L hy=>by
   by_cases hmx:m=x.j
   ·subst hmx;exact hq y hy
   ·rw[hqo m hmx]
    refine h.oth m y I (fun z hz e=>L z (Na hi hz (by rw[e];exact hmx)) e) ?_
    rw[←hgo m I hmx];exact hy
  j0:=fun y hy=>h.j0 y (hm hy).1
  jl:=fun y hy=>by rw[hgs];exact h.jl y (hm hy).1
  jn:=by rw[Pt];exact(List.eraseIdx_sublist _ _).nodup h.jn
  run:=fun y hy Z Y a3 a4 e=>by
   refine(h.run y (hm hy).1 _ _ _ _ e).kept ?_ (fun b hb=>hne b (H y (hm hy).1 b hb)) (Aej hsz.symm) (Jm hmute)
   obtain⟨z,hz,hi⟩:=(h.run y (hm hy).1 _ _ _ _ e).g
   exact⟨z,by rw[hgo _ (h.j0 y (hm hy).1) (hm hy).2];exact hz,hi⟩
  sent:=fun y hy V W T e=>by
   have z:=(h.sent y (hm hy).1 V W T e).kept (w':=w.setChan c cap (B'.map Prod.snd).toArray false (r+1+B'.length) (r+1) tm) (fun b hb=>hne b (H y (hm hy).1 b hb)) (Aej hsz.symm) (Jm hmute)
   refine⟨z.val,z.sat,z.rw_,z.kp,?_⟩
   obtain⟨m,op,d,n,v⟩:=z.at_
   rcases hB with⟨D,_⟩|⟨v',D⟩
   ·rw[D]at d;cases d
   ·rw[D]at d
    cases m with
    | zero =>
     simp only[Aza,Option.some.injEq,Prod.mk.injEq]at d
     exact absurd d.1.symm (hm hy).2
    | succ m =>
     rw[Sl]at d
     exact⟨m,op,d,n,by rw[v];congr 1;omega⟩
  buf:=fun j v' hb=>by
   obtain⟨d,n⟩:=hBm _ hb
   obtain⟨y,hy,e,E⟩:=h.buf j v' d
   exact⟨y,Na hi hy (by rw[e];exact n),e,E⟩
  bn:=by
   rcases hB with⟨_,e⟩|⟨v',e⟩
   ·rw[e];exact Aiq
   ·have:=h.bn
    rw[e,Hd,Ol]at this
    exact this.2
  ch:=⟨cap,tm,Hq G,by omega⟩
  sat:=by
   refine⟨fun b o hb=>?_,fun z hz=>?_,by rw[F];exact h.sat.nd,fun b hb=>?_⟩
   ·rw[hne b (hnc b o hb)]
    exact(hρ b o hb).elim (h.sat.ro b o) (hsw b o)
   ·rcases C z hz with rfl|⟨hz',hzc⟩
    ·exact⟨cap,_,_,_,tm,Hq G,by rw[Aax];omega,fun e=>by
      have E:l.eraseIdx i=[]:=by simpa using e
      have J:B'=[]:=by
       cases hb:B' with
       | nil=>rfl
       | cons b0 B1 =>
        obtain⟨d,n⟩:=hBm b0 (by rw[hb];exact Oh ..)
        obtain⟨y,hy,K,_⟩:=h.buf b0.1 b0.2 d
        have:=Na hi hy (by rw[K];exact n)
        rw[E]at this;cases this
      rw[J];exact⟨rfl,rfl⟩⟩
    ·exact Res.fits_of (h.sat.own z hz') (hne z.1 hzc)
   ·rw[F]at hb
    cases hr:ρ' b with
    | none=>rfl
    | some o =>
     exfalso
     rcases hρ b o hr with d|d
     ·rw[h.sat.dj b hb]at d;cases d
     ·obtain⟨⟨b',y⟩,hy,e⟩:=Iu.1 hb
      simp only at e;subst e
      have hA:=h.am _ y hy (hnc _ _ hr)
      rcases hrw _ (show (ρw b').isSome=true by rw[d];rfl) with n|n
      ·exact h.ds _ hA (h.ss x hxl _ n)
      ·exact(h.a0 x hxl _ n).1 hA
  hc:=O
  one:=fun c' k' Rs' hc' hn=>by
   rcases C _ hc' with e|⟨hc'',_⟩
   ·injection e
   ·exact h.one c' k' Rs' hc'' hn
  nr:=fun c' vs hc'=>by
   rcases C _ hc' with e|⟨hc'',_⟩
   ·cases e
   ·exact h.nr c' vs hc''
  newk:=by rw[F];exact h.newk
  below:=⟨h.below.os,h.below.tape,h.below.output,by rw[hsz];exact h.below.size,fun m hm=>by rw[hne m (by omega)];exact h.below.block m hm⟩
  am:=fun b y hb hbc=>by
   rcases C _ hb with e|⟨hb',_⟩
   ·injection e with e _;exact absurd e hbc
   ·exact .inl (h.am b y hb' hbc)
  rm:=hρd
  ap:=fun y hy z hz hj b hb=>h.ap y (hm hy).1 z (hm hz).1 hj b hb
  a0:=fun y hy b hb=>⟨fun d=>d.elim (h.a0 y (hm hy).1 b hb).1 (h.ap y (hm hy).1 x hxl (hm hy).2 b hb).1,(h.a0 y (hm hy).1 b hb).2⟩
  ds:=fun b hb=>hb.elim (h.ds b) fun hb=>(h.a0 x hxl b hb).2
  ss:=fun y hy=>h.ss y (hm hy).1
  nc:=⟨fun d=>d.elim h.nc.1 (h.nc.2.2 x hxl),h.nc.2.1,fun y hy=>h.nc.2.2 y (hm hy).1⟩
  lt:=fun b hb=>by
   rw[hsz]
   rcases hb with (hb|hb)|hb|⟨y,hy,hb⟩
   ·exact h.lt b (.inl hb)
   ·exact h.lt b (.inr (.inr ⟨x,hxl,hb⟩))
   ·exact h.lt b (.inr (.inl hb))
   ·exact h.lt b (.inr (.inr ⟨y,(hm hy).1,hb⟩))
  wl:=h.wl.append hwl
  clean:=fun U=>Ni (h.clean U) hmute
  k0:=(h.k0.hears hkp hmute hy0 hy0g hpq).mono (Aej hsz.symm) (fun p' ⟨b,d,n⟩=>n.imp (fun n=>⟨b,d,n⟩) fun n=>⟨b,d,n⟩) fun p' d=>.inr d
  al:=fun m a ha hm'=>by
   rcases h.al m a (Wz ha hmute) hm' with d|⟨y,hy,v⟩
   ·exact .inl (d.app _)
   ·by_cases hj:y.j=x.j
    ·have:=Pr h.jn hy hxl hj
     subst this
     exact .inl ⟨q0,y0,hy0,hy0g,.inr ((hal m v).hb hpq)⟩
    ·exact .inr ⟨y,Na hi hy hj,v.app _⟩ }⟩
end
end
section
open Go Go.Conc Go.RowKit
open Go.ConcN (sumTo sumTo_upd upd_ne upd_same)
/-- How a worker goes on: to K. -/
def Blh(P:Program)(c:Nat)(x:WK)(K:WK→Prop):Prop:=match x.st with
  | .run fw cw ρw σw=>∃ρ' σ',Ghost ρw σw ρ' σ' ∧
      ((∃K0, Aal (Wn P) fw cw ρ' σ' K0 ∧ ∀fr' cs' σ'', K0 fr' cs' σ'' → ∀A, K {x with A := A, st := .run fr' cs' ρ' σ''}) ∨
       (∃v z, Amv P c v z fw cw ∧ x.R v ρ' ∧ (∃n, QuitsIn P n (Conc.served (G fw cw) undef)) ∧ ∀p, K {x with st := .sent v ρ' p}))
  | .sent ..=>True
/-- It comes to its end. -/
inductive Live(P:Program)(c:Nat):WK→Prop
 | mk {x:WK} (K:WK→Prop):Blh P c x K→(∀x',K x'→Live P c x')→Live P c x
theorem Live.sent{P:Program}{c j:Nat}{R:Value→Ro→Prop}{A S:Nat→Prop}{v:Value}{ρw:Ro}{p:Nat}:Live P c ⟨j,R,A,S,.sent v ρw p⟩:=.mk (fun _=>False) trivial fun _ h=>h.elim
theorem Live.of_msg{P:Program}{c:Nat}{R:Value→Ro→Prop}{fw:Frame}{cw:List Frame}{ρw:Ro}{σw:Own}(h:MsgI P c R fw cw ρw σw)(j:Nat)(S:Nat→Prop):∀A,Live P c ⟨j,R,A,S,.run fw cw ρw σw⟩:=by
 induction h with
 | ghost hg _ ih =>
  intro A
  obtain⟨K,⟨ρ',σ',b,d⟩,e⟩:=ih A
  exact .mk K ⟨ρ',σ',hg.trans b,d⟩ e
 | @step fw cw ρw σw K0 hst _ ih =>
  intro A
  refine .mk (fun x'=>∃fr' cs' σ'' A',K0 fr' cs' σ''∧x'=⟨j,R,A',S,.run fr' cs' ρw σ''⟩) ⟨ρw,σw,.refl,.inl ⟨K0,hst,fun fr' cs' σ'' hk A'=>⟨fr',cs',σ'',A',hk,rfl⟩⟩⟩ ?_
  rintro _ ⟨fr',cs',σ'',A',hk,rfl⟩
  exact ih _ _ _ hk A'
 | @send v z fw cw ρw σw b d e =>
  intro A
  refine .mk (fun x'=>∃p,x'=⟨j,R,A,S,.sent v ρw p⟩) ⟨ρw,σw,.refl,.inr ⟨v,z,b,d,e,fun p=>⟨p,rfl⟩⟩⟩ ?_
  rintro _ ⟨p,rfl⟩
  exact .sent
/-- What holds of a list of workers if it holds wherever one of them goes on. -/
theorem Aqn{P:Program}{c:Nat}:∀(n:Nat) (T:List WK→Prop),(∀l,(∀i x,l[i]?=some x→∃K,Blh P c x K∧∀x',K x'→Live P c x'∧T (l.set i x'))→T l)→∀l,l.length=n→(∀x∈l,Live P c x)→T l
 | 0,T,good,l,hl,_=>by
  have:l=[]:=Aem hl
  subst this
  exact good [] fun i x hx=>by cases hx
 | n+1,T,good,l,hl,hall=>by
  have key:∀a,Live P c a→∀l',l'.length=n→(∀x∈l',Live P c x)→T (a::l'):=by
   intro a ha
   induction ha with
   | @mk a K hf hk ih =>
    intro l' hl' b
    refine Aqn n (fun l'=>l'.length=n→(∀x∈l',Live P c x)→T (a::l')) (fun l' hs d hal=>good (a::l') fun i x hx=>?_) l' hl' b hl' b
    cases i with
    | zero=>cases hx;exact⟨K,hf,fun x' hx'=>⟨hk x' hx',ih x' hx' l' d hal⟩⟩
    | succ i =>
     rw[Sl]at hx
     obtain⟨K',hf',hk'⟩:=hs i x hx
     refine⟨K',hf',fun x' hx'=>⟨(hk' x' hx').1,(hk' x' hx').2 (by simpa using d) fun y hy=>?_⟩⟩
     rcases List.mem_or_eq_of_mem_set hy with h|rfl
     ·exact hal y h
     ·exact(hk' _ hx').1
  cases l with
  | nil=>cases hl
  | cons a l'=>exact key a (hall a mC) l' (by simpa using hl) fun x hx=>hall x (lZ0 _ hx)
theorem Afa{α:Type}:∀{l m:List α},l.Nodup→(∀x∈l,x∈m)→l.length≤m.length
 | [],m,_,_=>Mq _
 | a::l,m,hn,hs=>by
  obtain⟨s,t,rfl⟩:=List.append_of_mem (hs a mC)
  have hn':=Ol.1 hn
  have:=Afa (l:=l) (m:=s++t) hn'.2 fun x hx=>by
   have b:=hs x (lZ0 _ hx)
   rcases Fb.1 b with b|b
   ·exact Lb _ b
   ·rcases lZ8.1 b with rfl|b
    ·exact absurd hx hn'.1
    ·exact Ix _ b
  simp only[lZ1,lZ2]at this ⊢
  omega
section
variable{P:Program}{Pst:Value→World→Prop}{W0:World}{fr:Frame}{cs:List Frame}{ρ:Ro}{σ:Own}{c k r:Nat}{l:List WK}{B:List (Nat×Value)}{A0 S0:Nat→Prop}{mp:Option (Value×Bool)}
 {gs:Array Goroutine} {w:World} {t:Trace} {q:Nat→Nat}
theorem PhN.awake(h:PhN P W0 fr cs ρ σ c k l B r A0 S0 mp gs w t q):∀g∈gs,Conc.awake g:=by
 intro g hg
 obtain⟨i,hi⟩:=Bcz hg
 by_cases hi0:i=0
 ·subst hi0
  cases hm:mp with
  | none=>obtain⟨x,hx,his⟩:=h.g0 hm;rw[hx]at hi;cases hi;exact Ip his.1
  | some z=>obtain⟨z,f⟩:=z;rw[(h.g0p z f hm).1]at hi;cases hi;exact Qf _ _ _
 ·by_cases hx:∃x∈l,x.j=i∧∃fw cw ρw σw,x.st = .run fw cw ρw σw
  ·obtain⟨x,hx,rfl,fw,cw,ρw,σw,hst⟩:=hx
   obtain⟨y,hy,his⟩:=(h.run x hx _ _ _ _ hst).g
   rw[hy]at hi;cases hi;exact Ip his.1
  ·have:=h.oth i g hi0 (fun x hxl e=>by
    cases hst:x.st with
    | run fw cw ρw σw=>exact absurd ⟨x,hxl,e,fw,cw,ρw,σw,hst⟩ hx
    | sent v ρw p=>exact⟨v,ρw,p,rfl⟩) hi
   rcases this.status with hs|hs<;>intro t e<;>rw[hs]at e<;>cases e
theorem PhN.offers{j:Nat}{send:Bool}(h:PhN P W0 fr cs ρ σ c k l B r A0 S0 mp gs w t q)(hj:j=0∨mp=none):∀i y,i≠j→gs[i]?=some y→offersAt y c send=[]:=fun i y hij hy=>by
 by_cases hi0:i=0
 ·subst hi0
  rcases hj with hj|hj
  ·exact absurd hj.symm hij
  ·obtain⟨x,hx,his⟩:=h.g0 hj
   rw[hx]at hy;cases hy;exact offersAt_of_not_blocked (by rw[his.1];simp) c send
 ·by_cases hx:∃x∈l,x.j=i∧∃fw cw ρw σw,x.st = .run fw cw ρw σw
  ·obtain⟨x,hx,rfl,fw,cw,ρw,σw,hst⟩:=hx
   obtain⟨z,hz,his⟩:=(h.run x hx _ _ _ _ hst).g
   rw[hz]at hy;cases hy;exact offersAt_of_not_blocked (by rw[his.1];simp) c send
  ·exact Gi (h.oth i y hi0 (fun x hxl e=>by
    cases hst:x.st with
    | run fw cw ρw σw=>exact absurd ⟨x,hxl,e,fw,cw,ρw,σw,hst⟩ hx
    | sent v ρw p=>exact⟨v,ρw,p,rfl⟩) hy)
theorem PhN.room{x:WK}{fw:Frame}{cw:List Frame}{ρw:Ro}{σw:Own}(h:PhN P W0 fr cs ρ σ c k l B r A0 S0 mp gs w t q)(hx:x∈l)(hst:x.st = .run fw cw ρw σw):B.length<l.length:=by
 have hn:(x.j::B.map Prod.fst).Nodup:=by
  refine Ol.2 ⟨fun hb=>?_,h.bn⟩
  obtain⟨⟨j,v'⟩,hb,e⟩:=Iu.1 hb
  obtain⟨y,hy,a,d,p,b⟩:=h.buf j v' hb
  have:=Pr h.jn hy hx (a.trans e)
  subst this
  rw[hst]at b;cases b
 have:=Afa (m:=l.map (·.j)) hn fun j hj=>by
  rcases lZ8.1 hj with rfl|hj
  ·exact Ml (f:=(·.j)) hx
  ·obtain⟨⟨j',v'⟩,hb,rfl⟩:=Iu.1 hj
   obtain⟨y,hy,a,_⟩:=h.buf j' v' hb
   exact a ▸ Ml (f:=(·.j)) hy
 simp only[lZ2,Aax]at this
 omega
/-- BESIDE WORKERS: it is enough to look at the first goroutine's step (if it runs),and at what follows its receive (if it waits for one). -/
theorem Aon{i0:Nat}{Rs:List (Value→Ro→Prop)}(hi0:σ[i0]?=some (c,Res.crowd k Rs))
  (hmain:mp=none→∀l B r A0 S0 gs w sl t q,l≠[]→(∀x∈l,Live P c x)→PhN P W0 fr cs ρ σ c k l B r A0 S0 none gs w t q→Out P Pst gs t (runT P (crowd gs w sl) 0))
  (hrecv:∀z f,mp=some (z,f)→∀(l:List WK) (i:Nat) (x:WK) v ρw ρ' B r A0 S0 gs w sl t q,(∀y∈l,Live P c y)→l.map (·.R)=Rs→l[i]?=some x→x.R v ρw→Ro.le ρ ρ'→Ro.le ρw ρ' →
   PhN P W0 (fr.finish (recvd f v true)) cs ρ' (σ.set i0 (c,.crowd k ((l.eraseIdx i).map (·.R)))) c k (l.eraseIdx i) B r A0 S0 none gs w t q→My P Pst (crowd gs w sl) t) :
  ∀l,l≠[]→(∀x∈l,Live P c x)→∀B r A0 S0 gs w sl t q,PhN P W0 fr cs ρ σ c k l B r A0 S0 mp gs w t q→My P Pst (crowd gs w sl) t:=by
 intro l hne E
 refine Aqn (P:=P) (c:=c) l.length (fun l=>l≠[]→(∀x∈l,Live P c x)→∀B r A0 S0 gs w sl t q,PhN P W0 fr cs ρ σ c k l B r A0 S0 mp gs w t q→My P Pst (crowd gs w sl) t) ?_ l rfl E hne E
 clear hne E l
 intro l hs hne E
 have key:∀(m:Nat) B r A0 S0 gs w sl t q,sumTo gs.size q≤m→PhN P W0 fr cs ρ σ c k l B r A0 S0 mp gs w t q→My P Pst (crowd gs w sl) t:=by
  have work:∀B r A0 S0 gs w sl t q,PhN P W0 fr cs ρ σ c k l B r A0 S0 mp gs w t q→∀x∈l,∀fw cw ρw σw,x.st = .run fw cw ρw σw→Out P Pst gs t (runT P (crowd gs w sl) x.j):=by
   intro B r A0 S0 gs w sl t q h x hx fw cw ρw σw hst
   obtain⟨i,hi⟩:=Aau hx
   obtain⟨K,hf,hk⟩:=hs i x hi
   unfold Blh at hf
   rw[hst]at hf
   obtain⟨ρ',σ',hg,hf⟩:=hf
   have X:∀x',l.set i x'≠[]:=fun x' e=>by
    have:=congrArg List.length e
    simp only[Sm,Dy]at this
    exact hne (Aem this)
   have N:∀x',Live P c x'→∀y∈l.set i x',Live P c y:=fun x' hx' y hy=>by
    rcases List.mem_or_eq_of_mem_set hy with h|rfl
    ·exact E y h
    ·exact hx'
   have C:=h.ghostw hg hi hst
   have L:(l.set i {x with st:=.run fw cw ρ' σ'})[i]?=some {x with st:=.run fw cw ρ' σ'}:=by
    have hlt:i<l.length:=by
     rcases Mg i l.length with h'|h'
     ·exact h'
     ·rw[Og h']at hi;cases hi
    rw[Rk];simp[hlt]
   have hR:=C.run _ (Gw hi) fw cw ρ' σ' rfl
   obtain⟨g,hgj,his⟩:=hR.g
   have hgj:gs[x.j]?=some g:=hgj
   have hb:(x.j==0)=false:=by simpa using h.j0 x hx
   rcases hf with⟨K0,a3,I⟩|⟨v,z,hat,hv,⟨n,hq⟩,I⟩
   ·obtain⟨fw',cw',w',es,σw',e1,e2,e3,e4⟩:=a3 w hR.sat
    refine .inl ⟨_,_,runT_crowd_go hgj (by rw[hb,his.step];exact e1),?_⟩
    have F:=C.work L rfl e2 e3 g hgj (Is.of fw' cw') g.frame.fn g.frame.place
    rw[Awg]at F
    obtain⟨H,D⟩:=hk _ (I _ _ _ e4 (fun b=>x.A b∨(w.heap.size≤b∧b<w'.heap.size)))
    exact D (X _) (N _ H) _ _ _ _ _ _ _ _ _ F
   ·have V:stepG P (x.j==0) g w = .comm (G fw cw) #[scase c v z] true .send w #[]:=by rw[hb,his.step];exact hat w
    obtain⟨cap,tm,hch,U⟩:=h.ch
    have hrm:=h.room hx hst
    have ee:MemOp.ofEvents x.j g.frame.fn g.frame.place #[] = #[]:=rfl
    cases hmp:mp with
    | none =>
     subst hmp
     have hp:partners (gs.setIfInBounds x.j ph) c false=[]:=Io (h.offers (.inr rfl))
     refine .inl ⟨_,_,crowd_send_room hgj V hch (by simp;omega) hp,?_⟩
     rw[ee,Vh]
     have F:=C.send (tm:=tm) (fn:=(G fw cw).frame.fn) (fn':=(G fw cw).frame.fn) (pos:=(G fw cw).frame.place) (pos':=(G fw cw).frame.place) L rfl hv hq (by simpa using U)
     rw[Awg]at F
     obtain⟨H,D⟩:=hk _ (I t.size)
     exact D (X _) (N _ H) _ _ _ _ _ _ _ _ _ F
    | some zf =>
     obtain⟨z0,f⟩:=zf
     subst hmp
     obtain⟨M,hB⟩:=h.g0p z0 f rfl
     subst hB
     have hp:partners (gs.setIfInBounds x.j ph) c false=[(0,0)]:=by
      rw[partners_one (stand_get (Ne.symm (h.j0 x hx)) M) fun m y hm hy=>?_]
      ·simp[offersAt_parked_recv]
      ·rcases getElem?_stand gs x.j m y hy with⟨_,rfl⟩|⟨hmj,hy⟩
       ·rfl
       ·by_cases hxx:∃x∈l,x.j=m∧∃fw cw ρw σw,x.st = .run fw cw ρw σw
        ·obtain⟨x',hx',rfl,_,_,_,_,T⟩:=hxx
         obtain⟨z',hz',a0⟩:=(h.run x' hx' _ _ _ _ T).g
         rw[hz']at hy;cases hy;exact offersAt_of_not_blocked (by rw[a0.1];simp) c false
        ·exact Gi (h.oth m y hm (fun x' hxl e=>by
          cases T:x'.st with
          | run fw cw ρw σw=>exact absurd ⟨x',hxl,e,fw,cw,ρw,σw,T⟩ hxx
          | sent v ρw p=>exact⟨v,ρw,p,rfl⟩) hy)
     refine .inl ⟨_,_,crowd_send_meets hgj V hch (Ne.symm (h.j0 x hx)) M hp,?_⟩
     rw[ee,Vh]
     generalize hu:(#[{g:=x.j,fn:=(G fw cw).frame.fn,pos:=(G fw cw).frame.place,act:=.send c (r+([]:List (Nat×Value)).length)},{g:=0,fn:=(G fr cs).frame.fn,pos:=(G fr cs).frame.place,act:=.recv c r cap},
      {g:=x.j,fn:=(G fw cw).frame.fn,pos:=(G fw cw).frame.place,act:=.sendDone c (r+([]:List (Nat×Value)).length)},{g:=0,fn:=(G fr cs).frame.fn,pos:=(G fr cs).frame.place,act:=.recvDone c r}]:Trace)=u
     have W:∀op∈u,op.act.touch?=none:=fun op hop=>by
      subst hu
      simp only[Ahn,lZ8,Rl,or_false]at hop
      rcases hop with rfl|rfl|rfl|rfl<;>rfl
     have hwl:Wordless u:=fun op hop m hm=>by
      subst hu
      simp only[Ahn,lZ8,Rl,or_false]at hop
      rcases hop with rfl|rfl|rfl|rfl<;>cases hm
     have Y:=h.wl.append hwl
     have J:(t++u)[t.size]?=some {g:=x.j,fn:=(G fw cw).frame.fn,pos:=(G fw cw).frame.place,act:=.send c r}:=by rw[Aen (Et _)];subst hu;simp
     have O:(t++u)[t.size+3]?=some {g:=0,fn:=(G fr cs).frame.fn,pos:=(G fr cs).frame.place,act:=.recvDone c r}:=by rw[Aen (by omega)];subst hu;simp
     have hpq:HappensBefore (t++u) t.size (t.size+3):=.single (.inr ⟨.handOver (c:=c) (k:=r) (by simp[Trace.act?,J]) (by simp[Trace.act?,O]),Y.heard J,Y.heard O⟩)
     have hRs:l.map (·.R)=Rs:=by
      have:=h.sat.uniq h.hc (lZ6 hi0)
      injection this
     have hmR:(l.set i {x with st:=.run fw cw ρ' σ'}).map (·.R)=l.map (·.R):=Oq hi rfl
     have hiR:σ[i0]?=some (c,Res.crowd k ((l.set i {x with st:=.run fw cw ρ' σ'}).map (·.R))):=by rw[hmR,hRs];exact hi0
     obtain⟨ρ'',q1,q2,H⟩:=C.take (i:=i) (i0:=i0) (p:=t.size) (q0:=t.size+3) (rv:=recvd f v true) (ρw:=ρ') (B':=[]) (cap:=cap) (tm:=tm) (u:=u) (q':=Go.ConcN.upd q x.j n)
      (gs':=(gs.setIfInBounds 0 ((G fr cs).finishComm P #[rcase c z0] (.recv f) 0 v true)).setIfInBounds x.j ((G fw cw).finishComm P #[scase c v z] .send 0 undef false))
      L hiR (by simpa using U) hR.sat.ro hR.rw_ (hR.kn.told W (Et _) J rfl) W hwl O rfl hpq (fun m hm=>by
       obtain⟨op,D,h5⟩:=hm
       have hlt:=lt_size_of_getElem? D
       exact .inr (hb_po hlt (by rw[getElem?_append_old hlt];exact D) J h5)) (.inl ⟨rfl,rfl⟩)
      ⟨_,by rw[Dw (Ne.symm (h.j0 x hx)),Fq M],by rw[finishComm_recv];exact(Is.of fr cs).served _⟩ (by simp) (fun m a1 hmx=>by rw[Dw hmx,Dw a1])
      (fun y hy=>by
       have h6:((gs.setIfInBounds 0 ((G fr cs).finishComm P #[rcase c z0] (.recv f) 0 v true)).setIfInBounds x.j ((G fw cw).finishComm P #[scase c v z] .send 0 undef false))[x.j]?=some ((G fw cw).finishComm P #[scase c v z] .send 0 undef false) :=
        Fq (y:=g) (by rw[Dw (h.j0 x hx)];exact hgj)
       have h7:some ((G fw cw).finishComm P #[scase c v z] .send 0 undef false)=some y:=h6.symm.trans hy
       cases h7
       show QuitsIn P (Go.ConcN.upd q x.j n x.j) _
       rw[upd_same];exact hq) (fun m hm=>upd_ne q n hm)
     refine hrecv z0 f rfl (l.set i {x with st:=.run fw cw ρ' σ'}) i {x with st:=.run fw cw ρ' σ'} v ρ' ρ'' [] (r+1) _ _ _ _ _ _ _ ?_ ?_ L hv q1 q2 H
     ·refine N _ ?_
      obtain⟨h8,_⟩:=hk _ (I t.size)
      exact .mk (fun x'=>K x') ⟨ρ',σ',.refl,.inr ⟨v,z,hat,hv,⟨n,hq⟩,I⟩⟩ fun x' hx'=>(hk x' hx').1
     ·rw[hmR,hRs]
  have Z:∀B r A0 S0 gs w sl t q,PhN P W0 fr cs ρ σ c k l B r A0 S0 mp gs w t q →
    (∀i g d sl',i≠0→(∀x∈l,x.j=i→∃v ρw p,x.st = .sent v ρw p)→gs[i]?=some g→g.status = .running→Out P Pst gs t (runT P (crowd gs (w.at d) sl') i))→My P Pst (crowd gs w sl) t:=by
   intro B r A0 S0 gs w sl t q h hq
   refine Jn h.awake ?_ fun i g d sl' hi hg=>?_
   ·cases hmp:mp with
    | none=>obtain⟨x,hx,his⟩:=h.g0 hmp;exact⟨0,x,hx,his.1⟩
    | some zf =>
     obtain⟨z,f⟩:=zf
     obtain⟨_,hB⟩:=h.g0p z f hmp
     obtain⟨x,l',rfl⟩:=List.exists_cons_of_ne_nil hne
     cases hst:x.st with
     | run fw cw ρw σw =>
      obtain⟨y,hy,his⟩:=(h.run x mC _ _ _ _ hst).g
      exact⟨_,y,hy,his.1⟩
     | sent v ρw p =>
      obtain⟨m,op,C,_⟩:=(h.sent x mC _ _ _ hst).at_
      rw[hB]at C;cases C
   ·by_cases a:i=0
    ·subst a
     cases hmp:mp with
     | none=>subst hmp;exact hmain rfl l B r A0 S0 gs _ sl' t q hne E (h.at_ d)
     | some zf=>obtain⟨z,f⟩:=zf;rw[(h.g0p z f hmp).1]at hi;cases hi;cases hg
    ·by_cases hx:∃x∈l,x.j=i∧∃fw cw ρw σw,x.st = .run fw cw ρw σw
     ·obtain⟨x,hx,rfl,fw,cw,ρw,σw,hst⟩:=hx
      exact work B r A0 S0 gs _ sl' t q (h.at_ d) x hx fw cw ρw σw hst
     ·exact hq i g d sl' a (fun x hxl e=>by
       cases hst:x.st with
       | run fw cw ρw σw=>exact absurd ⟨x,hxl,e,fw,cw,ρw,σw,hst⟩ hx
       | sent v ρw p=>exact⟨v,ρw,p,rfl⟩) hi hg
  intro m
  induction m with
  | zero =>
   intro B r A0 S0 gs w sl t q hm h
   refine Z B r A0 S0 gs w sl t q h fun i g d sl' a hil hi hg=>?_
   obtain⟨g',n,hk,_⟩:=Hf (w:=w) (sl:=sl) hi a hg (h.oth i g a hil hi)
   have:=Go.ConcN.le_sumTo (f:=q) (Aan.1 hi).1
   omega
  | succ m ih =>
   intro B r A0 S0 gs w sl t q hm h
   refine Z B r A0 S0 gs w sl t q h fun i g d sl' a hil hi hg=>?_
   obtain⟨g',n,hk,hq,a2⟩:=Hf (w:=w.at d) (sl:=sl') hi a hg (h.oth i g a hil hi)
   refine .inl ⟨_,_,a2,?_⟩
   rw[Wx]
   exact ih _ _ _ _ _ _ sl' t _ (by simpa using Zl hi hk hm) ((h.at_ d).leave hi a hil hq)
 exact fun B r A0 S0 gs w sl t q h=>key _ B r A0 S0 gs w sl t q (Et _) h
end
end
section
open Go Go.Conc Go.RowKit
open Go.ConcN (sumTo sumTo_upd upd_ne upd_same)
/-- The first goroutine stands at the step that ends the run;nobody is left to talk to. -/
def Agg(P:Program)(W0:World)(Pst:Value→World→Prop):Cy:=fun fr cs ρ σ =>
 NoRecv σ∧∀W,Sat ρ σ W→Below W0.heap.size W0 W→(∀b∈keys σ,W0.heap.size≤b)→∃v W' es,stepG P true (G fr cs) W = .ended (.done v) W' es∧(∀e∈es,Wb ρ σ e)∧Pst v W'
section
variable{P:Program}{Pst:Value→World→Prop}{W0:World}{fr:Frame}{cs:List Frame}{ρ:Ro}{σ:Own}
/-- The three things that are shown of a place in the first goroutine's walk. -/
structure Fine(P:Program)(W0:World)(Pst:Value→World→Prop)(fr:Frame)(cs:List Frame)(ρ:Ro)(σ:Own):Prop where
 A:∀gs w sl t q,PhA P W0 fr cs ρ σ gs w t q→My P Pst (crowd gs w sl) t
 B:∀c vs j Am Aw Sh fw cw ρw σw wp gs w sl t q,WGo P c vs fw cw ρw σw wp→PhB P W0 fr cs ρ σ c vs fw cw ρw σw j Am Aw Sh none wp gs w t q→My P Pst (crowd gs w sl) t
 C:∀c j Am Aw Sh pc gs w sl t q,PhC P W0 fr cs ρ σ c j Am Aw Sh pc gs w t q→My P Pst (crowd gs w sl) t
 N:∀c k l B r A0 S0 gs w sl t q,l≠[]→(∀x∈l,Live P c x)→PhN P W0 fr cs ρ σ c k l B r A0 S0 none gs w t q→My P Pst (crowd gs w sl) t
/-- It is enough to look at the first goroutine's own step. -/
theorem Pv(hA:∀gs w sl t q,PhA P W0 fr cs ρ σ gs w t q→Out P Pst gs t (runT P (crowd gs w sl) 0))
  (hC:∀c j Am Aw Sh pc gs w sl t q,PhC P W0 fr cs ρ σ c j Am Aw Sh pc gs w t q→Out P Pst gs t (runT P (crowd gs w sl) 0))
  (hB:(∀c j Am Aw Sh pc gs w sl t q,PhC P W0 fr cs ρ σ c j Am Aw Sh pc gs w t q→My P Pst (crowd gs w sl) t) →
   ∀c vs j Am Aw Sh fw cw ρw σw wp gs w sl t q,WGo P c vs fw cw ρw σw wp→PhB P W0 fr cs ρ σ c vs fw cw ρw σw j Am Aw Sh none wp gs w t q→Out P Pst gs t (runT P (crowd gs w sl) 0))
  (hN:∀c k l B r A0 S0 gs w sl t q,l≠[]→(∀x∈l,Live P c x)→PhN P W0 fr cs ρ σ c k l B r A0 S0 none gs w t q→Out P Pst gs t (runT P (crowd gs w sl) 0)):Fine P W0 Pst fr cs ρ σ:=by
 have hC':∀c j Am Aw Sh pc gs w sl t q,PhC P W0 fr cs ρ σ c j Am Aw Sh pc gs w t q→My P Pst (crowd gs w sl) t:=by
  intro c j Am Aw Sh pc gs w sl t q h
  obtain⟨g,hg,his⟩:=h.g0
  have hw:crowd gs w sl=crowd gs (w.at w.drawn) sl:=rfl
  rw[hw]
  refine Yg (g0:=g) (sz:=gs.size) his.1 (fun gs' q' d sl' a hsz ho=>?_) _ gs _ sl q (Et _) rfl hg h.oth
  exact hC c j Am Aw Sh pc gs' (w.at d) sl' t q' {(h.at_ d) with g0:=⟨g,a,his⟩,oth:=ho}
 refine⟨?_,?_,hC',?_⟩
 ·intro gs w sl t q h
  obtain⟨g,hg,his⟩:=h.g0
  have hw:crowd gs w sl=crowd gs (w.at w.drawn) sl:=rfl
  rw[hw]
  refine Yg (g0:=g) (sz:=gs.size) his.1 (fun gs' q' d sl' a hsz ho=>?_) _ gs _ sl q (Et _) rfl hg h.oth
  exact hA gs' (w.at d) sl' t q' {(h.at_ d) with g0:=⟨g,a,his⟩,oth:=ho}
 ·intro c vs j Am Aw Sh fw cw ρw σw wp gs w sl t q hW h
  cases wp with
  | none =>
   exact Ti hW Am σ (fun _ gs w sl t q fw cw ρw σw Aw wp hW h=>hB hC' c _ j Am Aw Sh fw cw ρw σw wp gs w sl t q hW h) (fun z v vs' e=>by cases e)
    (fun e gs w sl t q Aw pc h=>hC' c j Am Aw Sh pc gs w sl t q h) _ gs w sl t q Aw (Et _) h
  | some z =>
   obtain⟨v,z⟩:=z
   exact Adj (fun gs w sl t q h=>hB hC' c _ j Am Aw Sh fw cw ρw σw (some (v,z)) gs w sl t q hW h) _ gs w sl t q (Et _) h
 ·intro c k l B r A0 S0 gs w sl t q hne p h
  obtain⟨i,hi⟩:=Aau h.hc
  exact Aon hi (fun _ l B r A0 S0 gs w sl t q b m n=>hN c k l B r A0 S0 gs w sl t q b m n) (fun z f e=>by cases e) l hne p B r A0 S0 gs w sl t q h
theorem Fine.ghost{ρ':Ro}{σ':Own}(hg:Ghost ρ σ ρ' σ')(h:Fine P W0 Pst fr cs ρ' σ'):Fine P W0 Pst fr cs ρ σ :=
 ⟨fun gs w sl t q h'=>h.A gs w sl t q (h'.ghost hg),fun c vs j Am Aw Sh fw cw ρw σw wp gs w sl t q hW h'=>h.B c vs j Am Aw Sh fw cw ρw σw wp gs w sl t q hW (h'.ghost hg),
  fun c j Am Aw Sh pc gs w sl t q h'=>h.C c j Am Aw Sh pc gs w sl t q (h'.ghost hg),fun c k l B r b d gs w sl t q a e h'=>h.N c k l B r b d gs w sl t q a e (h'.ghost hg a)⟩
theorem Aew{K:Frame→List Frame→Own→Prop}(hst:Aal (Iw P) fr cs ρ σ K)(hK:∀fr' cs' σ',K fr' cs' σ'→Fine P W0 Pst fr' cs' ρ σ'):Fine P W0 Pst fr cs ρ σ:=by
 refine Pv (fun gs w sl t q h=>?_) (fun c j Am Aw Sh pc gs w sl t q h=>?_) (fun _ c vs j Am Aw Sh fw cw ρw σw wp gs w sl t q hW h=>?_) (fun c k l B r i m gs w sl t q hne f h=>?_)
 ·obtain⟨g,hg,his⟩:=h.g0
  obtain⟨fr',cs',w',es,σ',a,b,d,e⟩:=hst w h.sat
  have a:stepG P true (G fr cs) w = .go (G fr' cs') w' es:=a
  refine .inl ⟨_,_,runT_crowd_go hg (show stepG P (0==0) g w=_ from (his.step w).trans a),?_⟩
  exact(hK _ _ _ e).A _ _ _ _ _ (h.main b d g hg (Is.of _ _) _ _)
 ·obtain⟨g,hg,his⟩:=h.g0
  obtain⟨fr',cs',w',es,σ',a,b,d,e⟩:=hst w h.sat
  have a:stepG P true (G fr cs) w = .go (G fr' cs') w' es:=a
  refine .inl ⟨_,_,runT_crowd_go hg (show stepG P (0==0) g w=_ from (his.step w).trans a),?_⟩
  exact(hK _ _ _ e).C _ _ _ _ _ _ _ _ _ _ _ (h.main b d g hg (Is.of _ _) _ _)
 ·obtain⟨g,hg,his⟩:=h.g0 rfl
  obtain⟨fr',cs',w',es,σ',a,b,d,e⟩:=hst w h.sat
  have a:stepG P true (G fr cs) w = .go (G fr' cs') w' es:=a
  refine .inl ⟨_,_,runT_crowd_go hg (show stepG P (0==0) g w=_ from (his.step w).trans a),?_⟩
  exact(hK _ _ _ e).B _ _ _ _ _ _ _ _ _ _ _ _ _ _ _ _ hW (h.main b d g hg (Is.of _ _) _ _)
 ·obtain⟨g,hg,his⟩:=h.g0 rfl
  obtain⟨fr',cs',w',es,σ',a,b,d,e⟩:=hst w h.sat
  have a:stepG P true (G fr cs) w = .go (G fr' cs') w' es:=a
  refine .inl ⟨_,_,runT_crowd_go hg (show stepG P (0==0) g w=_ from (his.step w).trans a),?_⟩
  exact(hK _ _ _ e).N _ _ _ _ _ _ _ _ _ _ _ _ hne f (h.main b d g hg (Is.of _ _) _ _)
/-- Nobody is there from whom something is still to come. -/
theorem PhN.calm{c k r:Nat}{l:List WK}{B:List (Nat×Value)}{A0 S0:Nat→Prop}{mp:Option (Value×Bool)}{gs:Array Goroutine}{w:World}{t:Trace}{q:Nat→Nat}(h:PhN P W0 fr cs ρ σ c k l B r A0 S0 mp gs w t q)(hne:l≠[])(hn:NoRecv σ):False :=
 hne (by simpa using hn.crowd _ _ _ h.hc)
theorem Aex(h:Agg P W0 Pst fr cs ρ σ):Fine P W0 Pst fr cs ρ σ:=by
 obtain⟨hn,hs⟩:=h
 refine Pv (fun gs w sl t q h=>?_) (fun c j Am Aw Sh pc gs w sl t q h=>absurd h.hc (hn.recv _ _)) (fun _ c vs j Am Aw Sh fw cw ρw σw wp gs w sl t q hW h=>absurd h.hc (hn.recv _ _)) (fun c k l B r f i gs w sl t q hne m h=>(h.calm hne hn).elim)
 obtain⟨g,hg,his⟩:=h.g0
 obtain⟨v,W',es,a,b,d⟩:=hs w h.sat h.below h.newk
 refine .inr ⟨_,_,_,runT_many_ended hg (show stepG P (0==0) g w=_ from (his.step w).trans a),fun p n=>?_⟩
 obtain⟨o1,e⟩:=Abe b 0 g.frame.fn g.frame.place
 have htr:=h.tr.own o1 fun op hop=>(e op hop).1
 refine⟨v,rfl,d,htr.clean,htr.handed,⟨fun x hx=>?_,rfl⟩,fun j x hx hj=>?_⟩
 ·obtain⟨j,hj⟩:=Avv.1 hx
  rw[Yx]at hj
  exact⟨_,(h.oth (1+j) x (by omega) (by simpa[crowd]using hj)).leaves⟩
 ·have hq:=h.oth j x hj hx
  refine⟨q j,?_⟩
  rw[htr.wl.deaf]
  exact hq.hears _ _
theorem Aeu{d:Deferred}{i c:Nat}{vs:List Value}{fr':Frame}(hst:∀W,stepG P true (G fr cs) W = .spawn (G fr' cs) (G (Gg P d) []) W #[])(hn:NoRecv σ)(hi:σ[i]?=some (c,Res.chan))(hS:SendI P c vs (Gg P d) [] ρ [])
  (hK:Fine P W0 Pst fr' cs ρ (σ.set i (c,.recv vs))):Fine P W0 Pst fr cs ρ σ:=by
 have hc:(c,Res.chan)∈σ:=lZ6 hi
 refine Pv (fun gs w sl t q h=>?_) (fun c j Am Aw Sh pc gs w sl t q h=>absurd h.hc (hn.recv _ _)) (fun _ c vs j Am Aw Sh fw cw ρw σw wp gs w sl t q hW h=>absurd h.hc (hn.recv _ _)) (fun c k l B r D E gs w sl t q hne F h=>(h.calm hne hn).elim)
 obtain⟨g,hg,his⟩:=h.g0
 refine .inl ⟨_,_,runT_crowd_spawn hg (show stepG P (0==0) g w=_ from (his.step w).trans (hst w)),?_⟩
 have hsz:0<gs.size:=(Aan.1 hg).1
 have m:=Tt (r':=Res.recv vs) hi
 have a:∀p,p∈σ.set i (c,Res.recv vs)→p=(c,.recv vs)∨(p∈σ∧p.1≠c):=fun p hp=>Gq hi h.sat.nd hp
 obtain⟨s,r,tm,hch⟩:=h.sat.own _ hc
 have C:(c,Res.recv vs)∈σ.set i (c,.recv vs):=by
  have hlt:i<σ.length:=by
   rcases Mg i σ.length with h'|h'
   ·exact h'
   ·rw[Og h']at hi;cases hi
  exact lZ6 (i:=i) (by rw[Rk];simp[hlt])
 refine hK.B c vs gs.size (fun b=>∃x,(b,x)∈σ∧b≠c) (fun _=>False) (fun b=>(ρ b).isSome=true) (Gg P d) [] ρ [] none _ _ _ _ q hS {
  g0:=fun _=>⟨G fr' cs,by rw[Atr];simp only[Aqd,Zt hsz,if_false];exact Fq hg,Is.of _ _⟩
  g0p:=fun z e=>by cases e
  gj:=fun _=>⟨G (Gg P d) [],by rw[Atr];simp,Is.of _ _⟩
  gjp:=fun v z e=>by cases e
  j0:=by omega
  oth:=fun k x hk hkj hx=>by
   have hk':gs[k]?=some x:=by
    rw[Atr]at hx
    simp only[Aqd,hkj,if_false]at hx
    rwa[Ayz (Ne.symm hk)]at hx
   exact h.oth k x hk hk'
  sat:=?_
  satw:=⟨h.sat.ro,fun p hp=>absurd hp Rl,Aiq,fun b hb=>absurd hb Rl⟩
  ch:=⟨s,r,tm,hch⟩
  hc:=C
  one:=fun c' vs' hc'=>by
   rcases a _ hc' with e|⟨hc'',_⟩
   ·injection e
   ·exact absurd hc'' (hn.recv _ _)
  nrw:=.nil
  ncr:=fun c' k Rs hc'=>by
   rcases a _ hc' with e|⟨hc'',_⟩
   ·cases e
   ·exact hn.crowd _ _ _ hc''
  newk:=by rw[m];exact h.newk
  neww:=fun b hb=>by cases hb
  below:=h.below
  am:=fun b x hb hx=>by
   rcases a _ hb with e|⟨hb',hbc⟩
   ·injection e with _ e;exact absurd e (hx vs)
   ·exact⟨x,hb',hbc⟩
  aw:=fun b hb=>by cases hb
  rm:=fun b hb=>.inl hb
  rw_:=fun b hb=>.inl hb
  dmw:=fun b _ h=>h
  dms:=fun b ⟨x,f,_⟩ n=>by rw[h.sat.dj b (Du f)]at n;cases n
  dws:=fun b h _=>h
  ncm:=fun⟨x,_,f⟩=>f rfl
  ncw:=id
  ncs:=by rw[h.sat.dj c (Du hc)];simp
  lt:=fun b hb=>by
   rcases hb with⟨x,hb,_⟩|hb|hb
   ·exact h.sat.key_lt (Du hb)
   ·exact hb.elim
   ·obtain⟨o,ho⟩:=Atp.1 hb
    exact Dq (h.sat.ro b o ho).1
  tr:=?_ }
 ·refine⟨h.sat.ro,fun p hp=>?_,by rw[m];exact h.sat.nd,by rw[m];exact h.sat.dj⟩
  rcases a p hp with rfl|⟨hp',_⟩
  ·exact⟨s,r,false,tm,hch⟩
  ·exact h.sat.own p hp'
 ·have u:MemOp.ofEvents 0 g.frame.fn g.frame.place #[] = #[]:=rfl
  rw[u]
  exact h.tr.fork (by omega) (x:={g:=0,fn:=g.frame.fn,pos:=g.frame.place,act:=.go gs.size}) (y:={g:=gs.size,fn:=(G (Gg P d) []).frame.fn,pos:=g.frame.place,act:=.start}) ⟨rfl,rfl⟩ ⟨rfl,rfl⟩
theorem Aev{i c:Nat}{v z:Value}{vs:List Value}(hst:Sv P c z fr cs)(hi:σ[i]?=some (c,Res.recv (v::vs)))
  (hK:Fine P W0 Pst (fr.finish (.tuple #[v,.bool true])) cs ρ (σ.set i (c,.recv vs))):Fine P W0 Pst fr cs ρ σ:=by
 have hc:(c,Res.recv (v::vs))∈σ:=lZ6 hi
 refine Pv (fun gs w sl t q h=>absurd hc (h.nr.recv _ _)) (fun c' j Am Aw Sh pc gs w sl t q h=>?_) (fun hC c' vs' j Am Aw Sh fw cw ρw σw wp gs w sl t q hW h=>?_) (fun c' k l B r n u gs w sl t q _ _ h=>absurd hc (h.nr _ _))
 ·obtain rfl:=h.one _ _ hc
  exact absurd (h.sat.uniq hc h.hc) (by simp)
 ·obtain rfl:=h.one _ _ hc
  have e:vs'=v::vs:=by
   have:=h.sat.uniq h.hc hc
   injection this
  subst e
  obtain⟨g,hg,his⟩:=h.g0 rfl
  obtain⟨s,r,tm,hch⟩:=h.ch
  have b:stepG P (0==0) g w = .comm (G fr cs) #[rcase c z] true (.recv true) w #[]:=(his.step w).trans (hst w)
  cases wp with
  | none =>
   obtain⟨x,hx,d⟩:=h.gj rfl
   have hp:partners (gs.setIfInBounds 0 ph) c true=[]:=Io fun k y hk hy=>by
    by_cases hkj:k=j
    ·subst hkj;rw[hx]at hy;cases hy;exact offersAt_of_not_blocked (by rw[d.1];simp) c true
    ·exact Gi (h.oth k y hk hkj hy)
   refine .inl ⟨_,_,crowd_waits hg b fun cc hcc=>?_,?_⟩
   ·have:cc=rcase c z:=by simpa using hcc
    subst this
    exact ways_recv_none hch hp
   ·have a:MemOp.ofEvents 0 g.frame.fn g.frame.place #[] = #[]:=rfl
    rw[a,Wx]
    refine Ti (mp:=some z) (fr:=fr) (cs:=cs) (ρ:=ρ) (j:=j) (Sh:=Sh) (W0:=W0) hW Am σ (fun e=>by cases e) (fun z' v' vs' _ e=>?_) (fun e=>by cases e) _ _ _ _ _ q Aw (Et _) ?_
    ·injection e with a e2
     subst a e2
     exact⟨i,hi,fun gs w sl t q fw cw ρw σw Aw hS h'=>hK.B _ _ _ _ _ _ _ _ _ _ _ _ _ _ _ _ (show WGo P c vs fw cw ρw σw none from hS) h'⟩
    ·exact { h with
      g0:=fun e=>by cases e
      g0p:=fun z' e=>by cases e;exact Fq hg
      gj:=fun _=>⟨x,by rw[Dw h.j0];exact hx,d⟩
      gjp:=fun v z e=>by cases e
      oth:=fun k y hk hkj hy=>by rw[Dw hk]at hy;exact h.oth k y hk hkj hy }
  | some p =>
   obtain⟨C,z0⟩:=p
   obtain⟨D,e,hS⟩:=hW
   injection e with a e2
   subst a e2
   have hj:=h.gjp v z0 rfl
   have hp:partners (gs.setIfInBounds 0 ph) c true=[(j,0)]:=by
    rw[partners_one (stand_get h.j0 hj) fun k y hk hy=>?_]
    ·simp[offersAt_parked_send]
    ·rcases getElem?_stand gs 0 k y hy with⟨_,rfl⟩|⟨f,hy⟩
     ·rfl
     ·exact Gi (h.oth k y f hk hy)
   refine .inl ⟨_,_,crowd_recv_meets hg b hch h.j0 hj hp,?_⟩
   refine hK.B _ _ _ _ _ _ _ _ _ _ _ _ _ _ _ q (show WGo P c vs _ cw ρw σw none from hS) (h.meet hi ?_ ?_ ?_ ?_ ?_)
   ·refine⟨_,?_,(Is.of fr cs).served _⟩
    rw[Fq (y:=g) (by rw[Dw (Ne.symm h.j0)];exact hg)]
    rfl
   ·refine⟨_,?_,(Is.of fw cw).served _⟩
    rw[Dw h.j0,Fq hj]
    rfl
   ·intro k hk hkj
    rw[Dw hk,Dw hkj]
   ·intro op hop m hm
    have:MemOp.ofEvents 0 g.frame.fn g.frame.place #[] = #[]:=rfl
    simp only[this,Vh]at hop
    simp only[Ahn,lZ8,Rl,or_false]at hop
    rcases hop with rfl|rfl|rfl|rfl<;>cases hm
   ·intro op hop
    have:MemOp.ofEvents 0 g.frame.fn g.frame.place #[] = #[]:=rfl
    simp only[this,Vh]at hop
    simp only[Ahn,lZ8,Rl,or_false]at hop
    rcases hop with rfl|rfl|rfl|rfl<;>rfl
theorem TC.ended{t:Trace}{j c pc:Nat}{Aw Sh:Nat→Prop}(h:TC t j c pc Aw Sh){x:MemOp}(hx:x.g=0∧x.act = .recvClosed c):TA (t ++ #[x]):=by
 have hwl:Wordless #[x]:=fun op hop m hm=>by
  have:op=x:=by simpa using hop
  subst this;rw[hx.2]at hm;cases hm
 have k:∀op ∈ #[x],op.act.touch?=none:=fun op hop=>by
  have:op=x:=by simpa using hop
  subst this;rw[hx.2];rfl
 have b:=h.wl.append hwl
 have d:(t ++ #[x])[t.size]?=some x:=by rw[Aen (Et _)];simp
 obtain⟨op,e,q,n⟩:=h.at_
 have hpc:=lt_size_of_getElem? e
 have f:(t ++ #[x])[pc]?=some op:=by rw[getElem?_append_old hpc];exact e
 have hcl:HappensBefore (t ++ #[x]) pc t.size:=.single (.inr ⟨.closed (c:=c) (by rw[Trace.act?,f];simp[n]) (by rw[Trace.act?,d];simp[hx.2]),b.heard f,b.heard d⟩)
 refine⟨b,fun p=>Ni (h.clean p) k,fun i a ha hm=>?_⟩
 rcases Di ha with h4|⟨op,_,h4,h5,_⟩
 ·rcases h.k0 i a h4 hm with h5|⟨h5,_⟩
  ·exact h5.app _
  ·exact⟨t.size,x,d,hx.1,.inr ((h5.app _).hb hcl)⟩
 ·rw[k op h4]at h5;cases h5
theorem Ph{σ:Own}{i c:Nat}{x:Res}(hi:σ[i]?=some (c,x))(nd:(keys σ).Nodup){p:Nat×Res}(hp:p∈σ.eraseIdx i):p∈σ∧p.1≠c:=by
 induction σ generalizing i with
 | nil=>cases hi
 | cons a σ ih =>
  simp only[keys,Hd,Ol]at nd
  cases i with
  | zero =>
   simp only[Aza,Option.some.injEq]at hi
   subst hi
   simp only[List.eraseIdx_zero,List.tail_cons]at hp
   exact⟨lZ0 _ hp,fun e=>nd.1 (Iu.2 ⟨p,hp,e⟩)⟩
  | succ i =>
   simp only[Sl]at hi
   simp only[List.eraseIdx_cons_succ,lZ8]at hp
   rcases hp with rfl|hp
   ·exact⟨Oh ..,fun e=>nd.1 (by rw[e];exact Iu.2 ⟨_,lZ6 hi,rfl⟩)⟩
   ·obtain⟨b,d⟩:=ih hi nd.2 hp
    exact⟨lZ0 _ b,d⟩
theorem Aet{i c:Nat}{z:Value}(hst:Sv P c z fr cs)(hi:σ[i]?=some (c,Res.recv []))
  (hK:Fine P W0 Pst (fr.finish (.tuple #[z,.bool false])) cs ρ (σ.eraseIdx i)):Fine P W0 Pst fr cs ρ σ:=by
 have hc:(c,Res.recv [])∈σ:=lZ6 hi
 refine Pv (fun gs w sl t q h=>absurd hc (h.nr.recv _ _)) (fun c' j Am Aw Sh pc gs w sl t q h=>?_) (fun hC c' vs' j Am Aw Sh fw cw ρw σw wp gs w sl t q hW h=>?_) (fun c' k l B r E F gs w sl t q _ _ h=>absurd hc (h.nr _ _))
 ·obtain rfl:=h.one _ _ hc
  obtain⟨g,hg,his⟩:=h.g0
  obtain⟨s,r,tm,hch⟩:=h.ch
  have m:stepG P (0==0) g w = .comm (G fr cs) #[rcase c z] true (.recv true) w #[]:=(his.step w).trans (hst w)
  have hp:partners (gs.setIfInBounds 0 ph) c true=[]:=Io fun k y hk hy=>Gi (h.oth k y hk hy)
  refine .inl ⟨_,_,crowd_recv_closed hg m hch hp,?_⟩
  have d:MemOp.ofEvents 0 g.frame.fn g.frame.place #[] = #[]:=rfl
  rw[d,Vh]
  have a:∀p,p∈σ.eraseIdx i→p∈σ∧p.1≠c:=fun p hp=>Ph hi h.sat.nd hp
  have u:∀b∈keys (σ.eraseIdx i),b∈keys σ:=fun b hb=>by
   obtain⟨p,hp,rfl⟩:=Iu.1 hb
   exact Ml (f:=Prod.fst) (a p hp).1
  exact hK.A _ _ _ _ q {
   g0:=⟨_,by rw[Fq hg];rfl,(Is.of fr cs).served _⟩
   oth:=fun k y hk hy=>by rw[Dw hk]at hy;exact h.oth k y hk hy
   sat:=⟨h.sat.ro,fun p hp=>h.sat.own p (a p hp).1,(List.Sublist.map Prod.fst (List.eraseIdx_sublist σ i)).nodup h.sat.nd,fun b hb=>h.sat.dj b (u b hb)⟩
   nr:=⟨fun c' vs' hc'=>by
    obtain⟨C,D⟩:=a _ hc'
    exact D (h.one _ _ C),fun c' k Rs hc'=>h.ncr c' k Rs (a _ hc').1⟩
   newk:=fun b hb=>h.newk b (u b hb)
   below:=h.below
   tr:=h.tr.ended ⟨rfl,rfl⟩ }
 ·obtain rfl:=h.one _ _ hc
  have e:vs'=[]:=by
   have:=h.sat.uniq h.hc hc
   injection this
  subst e
  obtain⟨g,hg,his⟩:=h.g0 rfl
  obtain⟨s,r,tm,hch⟩:=h.ch
  have m:stepG P (0==0) g w = .comm (G fr cs) #[rcase c z] true (.recv true) w #[]:=(his.step w).trans (hst w)
  cases wp with
  | none =>
   obtain⟨x,hx,n⟩:=h.gj rfl
   have hp:partners (gs.setIfInBounds 0 ph) c true=[]:=Io fun k y hk hy=>by
    by_cases hkj:k=j
    ·subst hkj;rw[hx]at hy;cases hy;exact offersAt_of_not_blocked (by rw[n.1];simp) c true
    ·exact Gi (h.oth k y hk hkj hy)
   refine .inl ⟨_,_,crowd_waits hg m fun cc hcc=>?_,?_⟩
   ·have:cc=rcase c z:=by simpa using hcc
    subst this
    exact ways_recv_none hch hp
   ·have d:MemOp.ofEvents 0 g.frame.fn g.frame.place #[] = #[]:=rfl
    rw[d,Wx]
    refine Ti (mp:=some z) (fr:=fr) (cs:=cs) (ρ:=ρ) (j:=j) (Sh:=Sh) (W0:=W0) hW Am σ (fun e=>by cases e) (fun z' v' vs' _ e=>by cases e) (fun _ gs w sl t q Aw pc h'=>hC _ _ _ _ _ _ _ _ _ _ _ h') _ _ _ _ _ q Aw (Et _) ?_
    exact { h with
      g0:=fun e=>by cases e
      g0p:=fun z' e=>by cases e;exact Fq hg
      gj:=fun _=>⟨x,by rw[Dw h.j0];exact hx,n⟩
      gjp:=fun v z e=>by cases e
      oth:=fun k y hk hkj hy=>by rw[Dw hk]at hy;exact h.oth k y hk hkj hy }
  | some p =>
   obtain⟨H,z0⟩:=p
   obtain⟨I,e,_⟩:=hW
   cases e
theorem Asy{d:Deferred}{i c k:Nat}{Rs:List (Value→Ro→Prop)}{R:Value→Ro→Prop}{fr':Frame}(hst:∀W,stepG P true (G fr cs) W = .spawn (G fr' cs) (G (Gg P d) []) W #[])(hn:∀c vs,(c,Res.recv vs)∉σ)
  (hone:∀c' k' Rs',(c',Res.crowd k' Rs')∈σ→Rs'≠[]→c'=c) (hi:σ[i]?=some (c,Res.crowd (k+1) Rs)) (hM:MsgI P c R (Gg P d) [] ρ []) (hK:Fine P W0 Pst fr' cs ρ (σ.set i (c,.crowd k (Rs++[R])))):Fine P W0 Pst fr cs ρ σ:=by
 have hc:(c,Res.crowd (k+1) Rs)∈σ:=lZ6 hi
 have key:∀l B r a f gs w sl t q,(∀x∈l,Live P c x)→l.map (·.R)=Rs→PhN P W0 fr cs ρ σ c (k+1) l B r a f none gs w t q→Out P Pst gs t (runT P (crowd gs w sl) 0):=by
  intro l B r a f gs w sl t q p hR h
  subst hR
  obtain⟨g,hg,his⟩:=h.g0 rfl
  refine .inl ⟨_,_,runT_crowd_spawn hg (show stepG P (0==0) g w=_ from (his.step w).trans (hst w)),?_⟩
  have n:MemOp.ofEvents 0 g.frame.fn g.frame.place #[] = #[]:=rfl
  rw[n]
  have m:=h.fork (d:=d) (fr':=fr') (R:=R) (fn:=g.frame.fn) (fn':=(G (Gg P d) []).frame.fn) (pos:=g.frame.place) (pos':=g.frame.place) hi rfl
  rw[show (l++[(⟨gs.size,R,fun _=>False,fun b=>(ρ b).isSome=true,.run (Gg P d) [] ρ []⟩:WK)]).map (·.R)=l.map (·.R)++[R] by simp]at m
  exact hK.N _ _ _ _ _ _ _ _ _ _ _ _ (by simp) (fun x hx=>by
   rcases Fb.1 hx with hx|hx
   ·exact p x hx
   ·rw[Lc.1 hx];exact Live.of_msg hM _ _ _) m
 refine Pv (fun gs w sl t q h=>?_) (fun c' j Am Aw Sh pc gs w sl t q h=>absurd h.hc (hn _ _)) (fun _ c' vs j Am Aw Sh fw cw ρw σw wp gs w sl t q hW h=>absurd h.hc (hn _ _)) (fun c' k' l B r a f gs w sl t q hne p h=>?_)
 ·have hR:=h.nr.crowd _ _ _ hc
  subst hR
  obtain⟨r,m⟩:=h.toN hc
  exact key [] [] r _ _ gs w sl t q (fun x hx=>by cases hx) rfl m
 ·have e:=hone _ _ _ h.hc (by simpa using hne)
  subst e
  have e:=h.sat.uniq h.hc hc
  injection e with n e2
  subst n
  exact key l B r a f gs w sl t q p e2 h
theorem Ata{i c k:Nat}{Rs:List (Value→Ro→Prop)}{z:Value}{f:Bool}(hst:Akn P c z f fr cs)(hi:σ[i]?=some (c,Res.crowd k Rs))(hne:Rs≠[])
  (hK:∀(n:Nat) R v ρ1 ρ',Rs[n]?=some R→R v ρ1→Ro.le ρ ρ'→Ro.le ρ1 ρ'→Fine P W0 Pst (fr.finish (recvd f v true)) cs ρ' (σ.set i (c,.crowd k (Rs.eraseIdx n)))):Fine P W0 Pst fr cs ρ σ:=by
 have hc:(c,Res.crowd k Rs)∈σ:=lZ6 hi
 have next:∀(l:List WK) (m:Nat) x v ρw ρ' B r a b gs w sl t q,(∀y∈l,Live P c y)→l.map (·.R)=Rs→l[m]?=some x→x.R v ρw→Ro.le ρ ρ'→Ro.le ρw ρ' →
   PhN P W0 (fr.finish (recvd f v true)) cs ρ' (σ.set i (c,.crowd k ((l.eraseIdx m).map (·.R)))) c k (l.eraseIdx m) B r a b none gs w t q→My P Pst (crowd gs w sl) t:=by
  intro l m x v ρw ρ' B r a b gs w sl t q d hR hm hv X Y h
  have hF:=hK m x.R v ρw ρ' (by rw[←hR,Oj,hm];rfl) hv X Y
  rw[Pt,hR]at h
  by_cases hl:l.eraseIdx m=[]
  ·rw[hl]at h
   exact hF.A _ _ _ _ _ h.toA
  ·exact hF.N _ _ _ _ _ _ _ _ _ _ _ _ hl (fun y hy=>d y (List.mem_of_mem_eraseIdx hy)) h
 refine Pv (fun gs w sl t q h=>absurd (h.nr.crowd _ _ _ hc) hne) (fun c' j Am Aw Sh pc gs w sl t q h=>absurd (h.ncr _ _ _ hc) hne) (fun _ c' vs j Am Aw Sh fw cw ρw σw wp gs w sl t q hW h=>absurd (h.ncr _ _ _ hc) hne) (fun c' k' l B r a b gs w sl t q aa d h=>?_)
 have e:=h.one _ _ _ hc hne
 subst e
 have e:=h.sat.uniq h.hc hc
 injection e with e1 hR
 subst e1
 obtain⟨g,hg,his⟩:=h.g0 rfl
 obtain⟨cap,tm,hch,a8⟩:=h.ch
 have H:stepG P (0==0) g w = .comm (G fr cs) #[rcase c z] true (.recv f) w #[]:=(his.step w).trans (hst w)
 have hp:partners (gs.setIfInBounds 0 ph) c true=[]:=Io (h.offers (.inl rfl))
 have ee:MemOp.ofEvents 0 g.frame.fn g.frame.place #[] = #[]:=rfl
 cases hB:B with
 | nil =>
  subst hB
  refine .inl ⟨_,_,crowd_waits hg H fun cc hcc=>?_,?_⟩
  ·have:cc=rcase c z:=by simpa using hcc
   subst this
   refine⟨made_recv z hch,?_⟩
   simp[ways,rcase,hch,hp]
  ·rw[ee,Wx]
   refine Aon (W0:=W0) (fr:=fr) (cs:=cs) (ρ:=ρ) (mp:=some (z,f)) hi (fun e=>by cases e) (fun z' f' e l' m x v ρw ρ' B r a b gs w sl t q K L M O T U V=>?_) l aa d [] r a b _ _ _ _ q ?_
   ·cases e
    exact next l' m x v ρw ρ' B r a b gs w sl t q K L M O T U V
   ·exact { h with
     g0:=fun e=>by cases e
     g0p:=fun z' f' e=>by cases e;exact⟨Fq hg,rfl⟩
     oth:=fun m y hm d hy=>by rw[Dw hm]at hy;exact h.oth m y hm d hy
     jl:=fun x hx=>by simpa using h.jl x hx
     run:=fun x hx fw cw ρw σw e=>{ h.run x hx fw cw ρw σw e with
      g:=by
       obtain⟨y,hy,hi⟩:=(h.run x hx fw cw ρw σw e).g
       exact⟨y,by rw[Dw (h.j0 x hx)];exact hy,hi⟩ } }
 | cons b0 B' =>
  obtain⟨j,v⟩:=b0
  subst hB
  obtain⟨x,hx,hxj,ρw,p,hsx⟩:=h.buf j v mC
  subst hxj
  obtain⟨m,hm⟩:=Aau hx
  have hS:=h.sent x hx v ρw p hsx
  obtain⟨mm,op,D,E,W⟩:=hS.at_
  have hmm:mm=0:=by
   cases mm with
   | zero=>rfl
   | succ mm =>
    rw[Sl]at D
    have:=h.bn
    rw[Hd,Ol]at this
    exact absurd (Ml (f:=Prod.fst) (lZ6 D)) this.1
  subst hmm
  refine .inl ⟨_,_,crowd_recv_buf hg H hch (by simp) hp,?_⟩
  rw[ee,Vh]
  generalize hu:(#[{g:=0,fn:=(G fr cs).frame.fn,pos:=(G fr cs).frame.place,act:=.recv c r cap},{g:=0,fn:=(G fr cs).frame.fn,pos:=(G fr cs).frame.place,act:=.recvDone c r}]:Trace)=u
  have I:∀op∈u,op.act.touch?=none:=fun op hop=>by
   subst hu
   simp only[Ahn,lZ8,Rl,or_false]at hop
   rcases hop with rfl|rfl<;>rfl
  have hwl:Wordless u:=fun op hop m hm=>by
   subst hu
   simp only[Ahn,lZ8,Rl,or_false]at hop
   rcases hop with rfl|rfl<;>cases hm
  have J:=h.wl.append hwl
  have F:(t++u)[p]?=some op:=by rw[getElem?_append_old (lt_size_of_getElem? E)];exact E
  have C:(t++u)[t.size+1]?=some {g:=0,fn:=(G fr cs).frame.fn,pos:=(G fr cs).frame.place,act:=.recvDone c r}:=by rw[Aen (by omega)];subst hu;simp
  have hpq:HappensBefore (t++u) p (t.size+1):=.single (.inr ⟨.handOver (c:=c) (k:=r) (by rw[Trace.act?,F];simp[W]) (by simp[Trace.act?,C]),J.heard F,J.heard C⟩)
  obtain⟨ρ'',q1,q2,Z⟩:=h.take (i:=m) (i0:=i) (p:=p) (q0:=t.size+1) (rv:=recvd f v true) (ρw:=ρw) (B':=B') (cap:=cap) (tm:=tm) (u:=u) (q':=q)
   (gs':=gs.setIfInBounds 0 ((G fr cs).finishComm P #[rcase c z] (.recv f) 0 v true))
   hm (by rw[hR];exact hi) a8 hS.sat hS.rw_ (hS.kp.other (Et _) (Jm I)) I hwl C rfl hpq (fun m' hm'=>by
    unfold AlOk at hm'
    rw[hsx]at hm'
    exact Before.app u hm') (.inr ⟨v,rfl⟩)
   ⟨_,Fq hg,by rw[finishComm_recv];exact(Is.of fr cs).served _⟩ (by simp) (fun m' a9 _=>by rw[Dw a9])
   (fun y hy=>by
    rw[Dw (h.j0 x hx)]at hy
    exact h.oth x.j y (h.j0 x hx) (fun x' hx' e=>by have:=Pr h.jn hx' hx e;subst this;exact⟨v,ρw,p,hsx⟩) hy) (fun m' _=>rfl)
  have a0:((((x.j,v)::B').map Prod.snd).toArray.extract 1 (((x.j,v)::B').map Prod.snd).toArray.size)=(B'.map Prod.snd).toArray:=by simp[Avs]
  rw[a0,show r+((x.j,v)::B').length=r+1+B'.length by simp only[lZ2];omega]
  have hgd:(((x.j,v)::B').map Prod.snd).toArray.getD 0 undef=v:=by simp
  rw[hgd]
  exact next l m x v ρw ρ'' B' (r+1) _ _ _ _ _ _ q d hR hm hS.val q1 q2 Z
theorem Bcg{K:Cy}(h1:Ade P fr cs ρ σ K)(ih:∀fr' cs' ρ' σ',K fr' cs' ρ' σ'→Fine P W0 Pst fr' cs' ρ' σ'):Fine P W0 Pst fr cs ρ σ:=by
 rcases h1 with⟨d,i,c,vs,fr',h1,a,b,e,g⟩|⟨i,c,v,vs,z,h1,a,b⟩|⟨i,c,z,h1,a,b⟩|⟨d,i,c,k,Rs,R,fr',h1,a,b,e,g,q⟩|⟨i,c,k,Rs,z,f,h1,a,b,e⟩
 ·exact Aeu h1 a b e (ih _ _ _ _ g)
 ·exact Aev h1 a (ih _ _ _ _ b)
 ·exact Aet h1 a (ih _ _ _ _ b)
 ·exact Asy h1 a b e g (ih _ _ _ _ q)
 ·exact Ata h1 a b fun n R v t ρ' h j m p=>ih _ _ _ _ (e n R v t ρ' h j m p)
end
end
section
open Go
section
variable{C:Ctx}{e:Env}{ds:List Deferred}{ρ:Ro}{σ:Own}{K:Value→List Deferred→Ro→Own→Prop}{rd:Option Nat}{dd:Option Tmp}
variable{ty:TypeId}{pos:String}{af:Array Edge}{g:Option (Nat×Bool)}{x y:Operand}{v p:Value}{t t':TypeId}{P:Program}
theorem Qm{v:Value}(h:single v=true):v.cells = #[v]:=by
 cases v<;>first|rfl|(simp[single]at h)
/-- One cell of an owned block is stored. -/
theorem Cz{c:List Value}{r off j:Nat}(hz:∃i,C.P.info? t=some i∧i.size=1)(hx:Af e x = .pointer (some ⟨r,off,none⟩))(hy:Af e y=v)(hs:single v=true)
  (hj:σ[j]?=some (r,.obj (.cells c.toArray t' (0,0)))) (hl:off<c.length) (h:K undef ds ρ (σ.set j (r,.obj (.cells (c.set off v).toArray t' (0,0))))) :
  wpS C.P ρ (execOp (Af e) ⟨dd,.store t x y,ty,pos,af,g⟩) σ (NextH C K rd ds ρ):=by
 refine Li (vs:=[v]) (c:=c) (c':=c.set off v) hz hx hy (Qm hs) rfl (by simpa using hs) hj (by simpa using Nat.succ_le_of_lt hl) ?_ h
 simp only[over]
theorem Ajx{k:IntKind}{p q:Int}{tys:Array TypeId}(hx:Af e x = .int k p)(hy:Af e y = .int k q):Yld P ρ e (.call ⟨.builtin .min,#[x,y],tys⟩) ty (.int k (min p q)):=by
 refine Mc (args:=[x,y]) (vs:=[.int k p,.int k q]) (s:=fun _=>pure (.int k (min p q))) (by simp[hx,hy]) (fun cs=>?_) ?_
 ·have a:builtin .min tys ty cs [.int k p,.int k q].toArray=(Builtin.min_ tys ty #[.int k p,.int k q]).bind fun v=>Sem.pure (Next.value v):=rfl
  rw[a]
  have b:Builtin.min_ tys ty #[.int k p,.int k q]=pure (.int k (min p q)):=by
   simp only[Builtin.min_,Aim,List.foldlM_nil,Builtin.min2]
   have:(if q<p then q else p)=min p q:=by split<;>omega
   rw[this];rfl
  rw[b]
 ·exact fun cs ρ' σ' _=>⟨rfl,rfl⟩
def Wu(P:Program):List Field→List Nat→Prop
 | [],[]=>True
 | f::fs,n::ns=>(∃i,P.info? f.type=some i∧i.size=n)∧Wu P fs ns
 | _,_=>False
def Gs:List Field→List Nat→List (Nat×Nat)
 | f::fs,n::ns=>(f.offset,n)::Gs fs ns
 | _,_=>[]
theorem Ux{P:Program}{Q:Array (Nat×Nat)→Own→Prop}:∀(fs:List Field) (ns:List Nat) (acc:Array (Nat×Nat)),Wu P fs ns→Q (acc++(Gs fs ns).toArray) σ →
  wpS P ρ (List.foldlM (m:=Sem) (fun (bs:Array (Nat×Nat)) (f:Field)=>Functor.map bs.push (do pure (f.offset,←sizeOf f.type))) acc fs) σ Q
 | [],[],acc,_,h=>by
  have e1:acc++(Gs [] []).toArray=acc:=by simp[Gs]
  rw[e1]at h
  exact h
 | f::fs,n::ns,acc,hs,h=>by
  rw[Aim]
  show wpS P ρ (Sem.bind _ _) σ Q
  rw[Ad]
  show wpS P ρ (Sem.bind (Sem.bind (sizeOf f.type) _) _) σ _
  rw[Ad,Ad]
  refine Dx hs.1 ?_
  show wpS P ρ (List.foldlM _ (acc.push (f.offset,n)) fs) σ Q
  refine Ux fs ns _ hs.2 ?_
  have e1:acc.push (f.offset,n)++(Gs fs ns).toArray=acc++(Gs (f::fs) (n::ns)).toArray:=by
   apply Array.ext';simp[Gs]
  rw[e1];exact h
theorem Be{place:Nat→Option (Nat×Nat)}{c cs:List Value}{i off:Nat}{v:Value}{rest:List (Nat×Value)}(hv:v.cells=cs.toArray)(hp:place i=some (off,cs.length))(hl:off+cs.length≤c.length) :
  Instr.fill place c.toArray ((i,v)::rest)=Instr.fill place (over c off cs).toArray rest:=by
 simp only[Instr.fill,hp,hv]
 have a:(decide (cs.toArray.size≠cs.length)||decide (off+cs.toArray.size>c.toArray.size))=false:=by
  simp only[Aaw,Bdq,decide_eq_false_iff_not]
  exact⟨by simp,by omega⟩
 rw[if_neg (by simpa using a)]
 congr 1
 have:=Pd cs c off 0
 rw[←Array.foldl_toList]
 simp only[Array.toList_zipIdx,App]
 rw[this,Vn]
theorem Dn{fs:List Field}{ns:List Nat}{z:Value}{zc cs:List Value}{ps:List (Nat×Operand)}{vs:List (Nat×Value)}(hT:P.underlying t=some (.struct fs.toArray))(hz:Fw P t z)(hzc:z.cells=zc.toArray)(hn:Wu P fs ns)
  (hp:ps.map (fun p=>(p.1,Af e p.2))=vs) (hf:Instr.fill ((Gs fs ns)[·]?) zc.toArray vs=some cs.toArray):Yld P ρ e (.build t ps.toArray) ty (.agg cs.toArray) :=
 Mt (s:=Instr.build t (ps.toArray.map fun (p:Nat×Operand)=>(p.1,Af e p.2))) (fun _ _ _ _=>rfl) fun ρ' σ _=>by
  have hps:(ps.toArray.map fun (p:Nat×Operand)=>(p.1,Af e p.2))=vs.toArray:=by rw[←hp];simp
  rw[hps]
  unfold Instr.build
  show wpS P ρ' ((zeroValue t).bind _) σ _
  rw[Ad]
  refine Jz hz ?_
  show wpS P ρ' ((underlying t).bind _) σ _
  rw[Ad]
  refine Az hT ?_
  dsimp only
  show wpS P ρ' (Sem.bind _ _) σ _
  rw[Ad,Atq,Bdd]
  refine Ux fs ns #[] hn ?_
  have a:(fun (x:Nat)=>(#[]++(Gs fs ns).toArray)[x]?)=fun (x:Nat)=>(Gs fs ns)[x]?:=by funext x;simp
  simp only[a,hzc,hf]
  exact⟨rfl,rfl⟩
def EvB(e:Env):List (Nat×Operand)→List (Nat×Value)→Prop
 | [],[]=>True
 | p::ps,q::qs=>(p.1=q.1∧Af e p.2=q.2)∧EvB e ps qs
 | _,_=>False
theorem EvB.map{e:Env}:∀{ps:List (Nat×Operand)} {qs:List (Nat×Value)},EvB e ps qs→ps.map (fun p=>(p.1,Af e p.2))=qs
 | [],[],_=>rfl
 | p::ps,q::qs,h=>by
  rw[Hd,EvB.map h.2,h.1.1,h.1.2]
 | [],_::_,h=>h.elim
 | _::_,[],h=>h.elim
theorem Grow.single{α:Type}[Dat α]{ρ:Ro}{el:TypeId}{v:Value}{xs:List α}{gr:Own}(h:Grow ρ el v xs gr):single v=true:=by
 rcases h.2.2 with⟨a,_⟩|⟨r,cap,cs,rs,gb,a,_⟩<;>rw[a]<;>rfl
theorem Cb{r off off0 off' i:Nat}{fs:Array Field}{f:Field}{n':Nat}(hT:P.underlying t=some (.struct fs))(hi:fs[i]?=some f)(ho:f.offset=off0)(hF:∃i,P.info? f.type=some i∧i.size=n')(hk:n'≠0)(hx:Af e x = .pointer (some ⟨r,off,none⟩))(ho':off+off0=off') :
  Yld P ρ e (.fieldAddr t x i) ty (.pointer (some ⟨r,off',none⟩)):=Ajt hT hi ho hF hk hx ho'
theorem Iq{r off off0 off' i:Nat}{fs:Array Field}{f:Field}{n':Nat}{j:TypeInfo}(hT:P.underlying t=some (.struct fs))(hi:fs[i]?=some f)(hF:P.info? f.type=some j)(hs:j.size=n':=by exact rfl)(ho:f.offset=off0:=by exact rfl)(hk:n'≠0:=by decide)(hx:Af e x = .pointer (some ⟨r,off,none⟩):=by exact rfl)(ho':off+off0=off':=by exact rfl):Yld P ρ e (.fieldAddr t x i) ty (.pointer (some ⟨r,off',none⟩)):=Cb hT hi ho ⟨_,hF,hs⟩ hk hx ho'
theorem Cq{r off off' len k':Nat}{el:TypeId}{k:IntKind}{q:Int}(i:Nat)(hT:P.underlying t=some (.array len el))(hE:∃i,P.info? el=some i∧i.size=k')(hx:Af e x = .pointer (some ⟨r,off,none⟩))(hy:Af e y = .int k q)(hq:q=(i:Int))(hi:i<len)(ho:off+i*k'=off') :
  Yld P ρ e (.indexAddr t x y) ty (.pointer (some ⟨r,off',none⟩)):=Aju i hT hE hx hy hq hi ho
theorem Afy{r off off' len cap k':Nat}{el:TypeId}{k:IntKind}{q:Int}(i:Nat)(hT:P.underlying t=some (.slice el))(hE:∃i,P.info? el=some i∧i.size=k')(hx:Af e x = .slice (some ⟨r,off,none⟩) len cap)(hy:Af e y = .int k q)(hq:q=(i:Int))(hi:i<len)(ho:off+i*k'=off') :
  Yld P ρ e (.indexAddr t x y) ty (.pointer (some ⟨r,off',none⟩)):=Ajv i hT hE hx hy hq hi ho
def Apk:List Value→Prop
 | []=>True
 | v::vs=>single v=true∧Apk vs
theorem Zh:∀{vs:List Value},Apk vs→∀w∈vs,single w=true
 | [],_,w,h=>by cases h
 | v::vs,hs,w,h=>by
  rcases lZ8.1 h with rfl|h
  ·exact hs.1
  ·exact Zh hs.2 w h
end
section
variable{P:Program}{b:FB}{n:Nat}{l₀ rest:List Oper}{Q:Env→List Deferred→Ro→Own→Prop}{e:Env}{ds:List Deferred}{ρ:Ro}{σ:Own}
variable{d:Nat}{ty t:TypeId}{pos:String}{af:Array Edge}{g:Option (Nat×Bool)}{x:Operand}{v z:Value}
end
end
section
open Go
section
variable{C:Ctx}{e:Env}{ds:List Deferred}{ρ:Ro}{σ:Own}{K:Value→List Deferred→Ro→Own→Prop}{rd:Option Nat}{dd:Option Tmp}
variable{ty:TypeId}{pos:String}{af:Array Edge}{g:Option (Nat×Bool)}{x y u:Operand}{v p:Value}{t t':TypeId}{P:Program}
/-- The fields are numbers,one cell each: these here,and those there. -/
def EqF(P:Program)(xs ys:Array Value):List Field→List Int→List Int→Prop
 | [],[],[]=>True
 | f::fs,p::ps,q::qs=>((f.name ≠ "_")∧∃k,P.underlying f.type=some (.int k)∧xs[f.offset]?=some (.int k p)∧ys[f.offset]?=some (.int k q))∧EqF P xs ys fs ps qs
 | _,_,_=>False
theorem Qr{cs:Array Value}{off:Nat}{Q:Value→Own→Prop}(hT:∃d,P.underlying t=some d∧Qv d=false)(hc:cs[off]?=some v)(h:Q v σ):wpS P ρ (part t cs off) σ Q:=by
 show wpS P ρ ((isAgg t).bind _) σ Q
 rw[Ad]
 refine Hi hT ?_
 simp only[hc]
 exact h
theorem Afv{k:IntKind}{a b:Int}{d:Nat}{Q:Bool→Own→Prop}(hT:P.underlying t=some (.int k))(h:Q (a==b) σ):wpS P ρ (Op.equalIn (d+1) t (.int k a) (.int k b)) σ Q:=by
 show wpS P ρ ((underlying t).bind _) σ Q
 rw[Ad]
 refine Az hT ?_
 simp only[if_true]
 exact h
theorem Uv{xs ys:Array Value}{d:Nat}{K:(Option Bool×Unit)→Own→Prop}:∀(fs:List Field) (ps qs:List Int),EqF P xs ys fs ps qs→K (if ps=qs then none else some false,()) σ →
    wpS P ρ (forIn fs ((none, ()) : Option Bool×Unit) fun (f : Field) (__s : Option Bool×Unit) =>
            if f.name ≠ "_" then do
              let __do_lift ←part f.type xs f.offset
              let __do_lift_1 ←part f.type ys f.offset
              let __do_lift ←Op.equalIn (d+1) f.type __do_lift __do_lift_1
              if (!__do_lift)=true then pure (ForInStep.done (some false,())) else pure (ForInStep.yield (none,()))
            else pure (ForInStep.yield (none,()))) σ K
  | [],[],[],_,h=>h
  | f::fs,p::ps,q::qs,⟨⟨hn,k,hT,hx,hy⟩,hr⟩,h=>by
    rw[Awd]
    show wpS P ρ (Sem.bind _ _) σ K
    rw[Ad,if_pos hn]
    show wpS P ρ ((part f.type xs f.offset).bind _) σ _
    rw[Ad]
    refine Qr ⟨_,hT,rfl⟩ hx ?_
    show wpS P ρ ((part f.type ys f.offset).bind _) σ _
    rw[Ad]
    refine Qr ⟨_,hT,rfl⟩ hy ?_
    show wpS P ρ ((Op.equalIn (d+1) f.type (.int k p) (.int k q)).bind _) σ _
    rw[Ad]
    refine Afv hT ?_
    cases hpq:(p==q) with
    | false =>
      have hne:¬(p::ps=q::qs):=fun h=>by injection h with h1;subst h1;simp at hpq
      rw[if_neg hne]at h
      exact h
    | true =>
      have he:p=q:=eq_of_beq hpq
      refine Uv fs ps qs hr ?_
      have:(p::ps=q::qs)↔ps=qs:=by subst he;simp
      simp only[this]at h
      exact h
  | [],[],_::_,h,_=>h.elim
  | [],_::_,_,h,_=>h.elim
  | _::_,[],_,h,_=>h.elim
  | _::_,_::_,[],h,_=>h.elim
theorem Ms{fs:List Field}{xs ys:Array Value}{ps qs:List Int}{d:Nat}{Q:Bool→Own→Prop}(hT:P.underlying t=some (.struct fs.toArray))(hs:P.stoodInHeld t=false)(hf:EqF P xs ys fs ps qs)(h:Q (decide (ps=qs)) σ) :
  wpS P ρ (Op.equalIn (d+2) t (.agg xs) (.agg ys)) σ Q:=by
 show wpS P ρ ((underlying t).bind _) σ Q
 rw[Ad]
 refine Az hT ?_
 show wpS P ρ (Sem.bind program _) σ Q
 rw[Ad]
 show wpS P ρ (if P.stoodInHeld t then _ else _) σ Q
 rw[if_neg (by simp[hs])]
 simp only[Awb]
 show wpS P ρ (Sem.bind _ _) σ Q
 rw[Ad]
 refine Uv fs ps qs hf ?_
 by_cases he:ps=qs
 ·rw[if_pos he];rw[Lg he]at h;exact h
 ·rw[if_neg he];rw[Om he]at h;exact h
/-- Structs of numbers are compared. -/
theorem Aci{fs:List Field}{xs ys:Array Value}{ps qs:List Int}(hT:P.underlying t=some (.struct fs.toArray))(hs:P.stoodInHeld t=false)(hg:P.eqGuardType P.depth t=false)(hx:Af e x = .agg xs)(hy:Af e y = .agg ys)(hf:EqF P xs ys fs ps qs) :
  Yld P ρ e (.binOp .neq t x y t') ty (.bool (!decide (ps=qs))) :=
 Mt (s:=(do eqGuard .neq t x y (Af e x) (Af e y);binOp .neq t (Af e x) (Af e y))) (fun _ _ _ _=>rfl) fun ρ' σ _=>by
  rw[hx,hy]
  show wpS P ρ' (Sem.bind (eqGuard .neq t x y (.agg xs) (.agg ys)) _) σ _
  rw[Ad]
  show wpS P ρ' (if (!P.eqGuardType P.depth t)=true then _ else _) σ _
  rw[if_pos (by simp[hg])]
  show wpS P ρ' ((Op.equal t (.agg xs) (.agg ys)).bind _) σ _
  rw[Ad]
  exact Ms (d:=9998) hT hs hf ⟨rfl,rfl⟩
theorem Acg{fs:List Field}{xs ys:Array Value}{ps qs:List Int}(hT:P.underlying t=some (.struct fs.toArray))(hs:P.stoodInHeld t=false)(hg:P.eqGuardType P.depth t=false)(hx:Af e x = .agg xs)(hy:Af e y = .agg ys)(hf:EqF P xs ys fs ps qs) :
  Yld P ρ e (.binOp .eql t x y t') ty (.bool (decide (ps=qs))) :=
 Mt (s:=(do eqGuard .eql t x y (Af e x) (Af e y);binOp .eql t (Af e x) (Af e y))) (fun _ _ _ _=>rfl) fun ρ' σ _=>by
  rw[hx,hy]
  show wpS P ρ' (Sem.bind (eqGuard .eql t x y (.agg xs) (.agg ys)) _) σ _
  rw[Ad]
  show wpS P ρ' (if (!P.eqGuardType P.depth t)=true then _ else _) σ _
  rw[if_pos (by simp[hg])]
  show wpS P ρ' ((Op.equal t (.agg xs) (.agg ys)).bind _) σ _
  rw[Ad]
  exact Ms (d:=9998) hT hs hf ⟨rfl,rfl⟩
def Ahx:Value→Nat
 | .slice (some a) _ _=>a.block
 | _=>0
theorem Nw{α:Type}[Dat α]{xs:List α}{gr:Own}{el el' off':Nat}{k:IntKind}{q:Int}(i:Nat)(hT:P.underlying t=some (.slice el'))(hE:∃i,P.info? el'=some i∧i.size=Dat.k α)(hx:Af e x=v)(hv:Grow ρ el v xs gr)(hy:Af e y = .int k q)(hq:q=(i:Int))(hi:i<xs.length)(ho:i*Dat.k α=off') :
  Yld P ρ e (.indexAddr t x y) ty (.pointer (some ⟨Ahx v,off',none⟩)):=by
 rcases hv.2.2 with⟨_,b⟩|⟨r,cap,cs,rs,gb,a,_⟩
 ·rw[b]at hi;simp at hi
 ·subst a
  exact Afy i hT hE hx hy hq hi (by omega)
theorem Ash{α:Type}[Dat α]{xs:List α}{a:α}{gr:Own}{el:TypeId}{w:Value}{off i:Nat}(hE:∃i,C.P.info? t=some i∧i.size=Dat.k α)(hx:Af e x = .pointer (some ⟨Ahx v,off,none⟩))(ho:off=i*Dat.k α)(hy:Af e y=w)(hw:Val ρ w a)(hv:Grow ρ el v xs gr)(hi:i<xs.length)
  (h:∀gr',Grow ρ el v (xs.set i a) gr'→K undef ds ρ (gr'++σ)):wpS C.P ρ (execOp (Af e) ⟨dd,.store t x y,ty,pos,af,g⟩) (gr++σ) (NextH C K rd ds ρ):=by
 obtain⟨wc,n,E,H⟩:=hw.cells
 rcases hv.2.2 with⟨_,E⟩|⟨r,cap,cs,rs,gb,F,G,hr,hl,hc⟩
 ·rw[E]at hi;simp at hi
 ·subst F G
  have hwl:=Dat.len n
  have hcl:=hr.len
  have hb:i*Dat.k α+Dat.k α≤xs.length*Dat.k α:=by rw[←Nat.succ_mul];exact Apo _ hi
  obtain⟨ca,cb,cc,b,j,d,m⟩:∃ca cb cc,cs=ca++(cb++cc)∧ca.length=i*Dat.k α∧cb.length=Dat.k α∧Rows ρ (ca++(wc++cc)) (xs.set i a):=by
   clear hv h hx hl hc hb hcl ho
   induction xs generalizing cs i with
   | nil=>simp at hi
   | cons z zs ih =>
    obtain⟨f,q,u,B,D⟩:=hr
    have hz:=Dat.len B
    cases i with
    | zero=>exact⟨[],f,q,by simp[u],by simp,hz,wc,q,rfl,n,D⟩
    | succ i =>
     obtain⟨ca,cb,cc,b,j,d,m⟩:=ih (i:=i) (by simpa using hi) _ D
     refine⟨f++ca,cb,cc,by rw[u,b];simp,by rw[lZ1,hz,j,Pp,Ael,Aei],d,f,ca++(wc++cc),by simp,B,m⟩
  refine Li (i:=0) (off:=off) (vs:=wc) (c:=cs++rs) (c':=(ca++(wc++cc))++rs) hE hx hy H hwl (Dat.sgl n) rfl (by rw[lZ1,hcl,hwl,ho];omega) ?_ ?_
  ·rw[Qe _ _ _ (by rw[lZ1,hcl,hwl,ho];omega),b,ho,←j,hwl,←d]
   rw[lZ9,Aqi,←lZ9 ca,←Aqh]
   simp[lZ9]
  ·refine h ((r,.obj (.cells ((ca++(wc++cc))++rs).toArray el (0,0)))::gb) ⟨fun p hp=>?_,by rw[Sm];exact hv.2.1,.inr ⟨r,cap,ca++(wc++cc),rs,gb,by rw[Sm],rfl,m,?_,by rw[Sm];exact hc⟩⟩
   ·rcases lZ8.1 hp with rfl|hp
    ·exact⟨_,rfl⟩
    ·exact hv.1 p (lZ0 _ hp)
   ·rw[←hl,b];simp[hwl,d]
end
section
variable{C:Ctx}{b:FB}{l₀:List Oper}{Q:Env→List Deferred→Ro→Own→Prop}{ds:List Deferred}{ρ₀ ρ₁:Ro}{pz:List Nat}
/-- More may be read from here on,in a drawn region. -/
theorem Pm(hl:((List.range l₀.length).all fun j=>!Pg l₀.toArray pz j)=true)(h01:Ro.le ρ₀ ρ₁):∀{fuel:Nat} {li:Array Bool} {e:Env} {ds:List Deferred} {ρ:Ro} {σ:Own},Ro.le ρ₁ ρ→El C b l₀.toArray Q pz (leS ρ₁) fuel li e ds ρ σ→El C b l₀.toArray Q pz (leS ρ₀) fuel li e ds ρ σ
 | 0,li,e,ds,ρ,σ,_,h=>h
 | fuel+1,li,e,ds,ρ,σ,hS,h=>by
  rcases h with h|⟨ρ',σ',hg,h1,h2,h3⟩
  ·exact .inl h
  ·refine .inr ⟨ρ',σ',hg,fun _=>h01.trans (h1 hS),h2,fun i hi=>?_⟩
   have h4:=h3 i hi
   refine OpH.mono h4 fun e' ds' ρ'' σ'' ⟨c,d⟩=>?_
   have hi':i<l₀.length:=by
    have:=(Nv.1 (show i∈(List.range l₀.toArray.size).filter _ from hi)).1
    simpa using this
   have f:Pg l₀.toArray pz i=false:=by
    have:=Hs.1 hl i (by simpa using hi')
    simpa using this
   have a:=c f
   exact⟨fun _=>h01.trans a,Pm hl h01 a d⟩
end
end
section
open Go
section
variable{C:Ctx}{e:Env}{ds:List Deferred}{ρ:Ro}{σ:Own}{K:Value→List Deferred→Ro→Own→Prop}{rd:Option Nat}{dd:Option Tmp}
variable{ty:TypeId}{pos:String}{af:Array Edge}{g:Option (Nat×Bool)}{x y u:Operand}{v p:Value}{t t':TypeId}{P:Program}
theorem Ck{a:Addr}(hx:Af e x = .pointer (some a)):Yld P ρ e (.nilCheck x) ty (.pointer (some a)):=fun ρ' σ d pos af g _=>by
 unfold execOp
 simp only[hx]
 exact⟨rfl,rfl⟩
theorem Il{fn:Fn}{caps:List Operand}{vs:List Value}(hv:EvL e caps vs):Yld P ρ e (.makeFunc fn #[] caps.toArray) ty (.func fn #[] vs.toArray):=fun ρ' σ d pos af g _=>by
 show wpS P ρ' ((Instr.makeFunc fn ((#[]:Array Operand).map (Af e)) (caps.toArray.map (Af e))).bind fun v=>Sem.pure (Next.value v)) σ _
 have a:(#[]:Array Operand).map (Af e) = #[]:=by simp
 rw[hv.map,a]
 exact⟨rfl,rfl⟩
end
/-- What is held may be told otherwise behind a piece of code. -/
def Vl(Q:Hu):Hu:=fun ex e ds ρ σ=>∃ρ' σ',Ghost ρ σ ρ' σ'∧Q ex e ds ρ' σ'
theorem Aab{C:Ctx}{b:FB}{n:Nat}{c:Code}{Q:Hu}{e:Env}{ds:List Deferred}{ρ:Ro}{σ:Own}{V:Hn}(h:WpP C V b n c (Vl Q) e ds ρ σ):WpP C V b n c Q e ds ρ σ:=fun tm k cs ht=>by
 refine(h tm k cs ht).bind ?_
 rintro _ _ ρ' σ' (⟨a,ex,tm',e',ds',i,d,⟨j,m,hg,hq⟩,f,g⟩|hp)
 ·exact .ghost hg (.stop (.inl ⟨a,ex,tm',e',ds',i,d,hq,f,g⟩))
 ·exact .stop (.inr hp)
theorem Yn{Q:Hu}{ex:Ex}{e:Env}{ds:List Deferred}{ρ ρ':Ro}{σ σ':Own}(hg:Ghost ρ σ ρ' σ')(h:Vl Q ex e ds ρ' σ'):Vl Q ex e ds ρ σ :=
 let ⟨ρ1,σ1,h1,h2⟩:=h;⟨ρ1,σ1,hg.trans h1,h2⟩
theorem Adc{Q:Hu}{ex:Ex}{e:Env}{ds:List Deferred}{ρ:Ro}{σ:Own}(h:Q ex e ds ρ σ):Vl Q ex e ds ρ σ:=⟨ρ,σ,.refl,h⟩
theorem Yp{I:List Value→Ro→Own→Prop}{pre pre':List Value}{ρ:Ro}{σ:Own}(h:pre'=pre)(hi:I pre ρ σ):I pre' ρ σ:=by rw[h];exact hi
theorem Fe(A B C:Own):(A++(B++C)).Perm (B++(A++C)):=Bio A B C
theorem Xg{α:Type}{f:α→Value}(hf:∀a b,f a=f b→a=b):∀{l m:List α},l.map f=m.map f→l=m
 | [],[],_=>rfl
 | [],_::_,h=>by cases h
 | _::_,[],h=>by cases h
 | a::l,b::m,h=>by
  simp only[Hd,List.cons.injEq]at h
  rw[hf a b h.1,Xg hf h.2]
theorem Nf{α:Type}{f:α→Value}(hf:∀a b,f a=f b→a=b){l m:List α}(h:l.map f=m.map f):m=l:=(Xg hf h).symm
theorem Ly{α:Type}{f:α→Value}(hf:∀a b,f a=f b→a=b){l l1:List α}{x:Value}{post:List Value}(h:l.map f=l1.map f++x::post):∃a l2,l=l1++a::l2∧x=f a:=by
 obtain⟨k,m,c,d,e⟩:=List.map_eq_append_iff.1 h
 obtain⟨a,l2,g,i,j⟩:=List.map_eq_cons_iff.1 e
 have:=Xg hf d
 subst this
 exact⟨a,l2,by rw[c,g],i.symm⟩
section
variable{C:Ctx}{e:Env}{ds:List Deferred}{ρ:Ro}{σ:Own}{K:Value→List Deferred→Ro→Own→Prop}{rd:Option Nat}{dd:Option Tmp}
variable{ty:TypeId}{pos:String}{af:Array Edge}{g:Option (Nat×Bool)}{x y u:Operand}{v p:Value}{t t':TypeId}{P:Program}
theorem Xt{old new:Value}{Q:Value→Own→Prop}(hw:old=new)(h:Q new σ):wpS P ρ (Instr.keyThatStays old new) σ Q:=by
 subst hw
 unfold Instr.keyThatStays
 split
 ·exact h
 ·show wpS P ρ (Sem.bind (choose _) _) σ Q
  rw[Ad]
  show (if _ then _ else _)
  have key:∀n:Nat,(if n=0 then old else old)=old:=fun n=>by split<;>rfl
  split
  ·simp only[key];exact h
  ·intro t;simp only[key];exact h
end
end
section
open Go Go.WideShapes
/-- What may be read of a world: all its blocks but channels. -/
def roW(W:World):Ro:=fun b=>match W.heap[b]? with
 | some o=>if o.isChan then none else some o
 | none=>none
theorem Anl{W:World}(b:Nat)(o:Obj)(h:roW W b=some o):W.heap[b]?=some o∧o.isChan=false:=by
 unfold roW at h
 cases hb:W.heap[b]? with
 | none=>rw[hb]at h;cases h
 | some o' =>
  rw[hb]at h
  simp only at h
  cases hc:o'.isChan with
  | true=>rw[hc]at h;cases h
  | false=>rw[hc]at h;simp at h;subst h;exact⟨rfl,hc⟩
theorem Vz{W:World}{b t:Nat}{c:Array Value}{fz:Nat×Nat}(h:W.heap[b]?=some (.cells c t fz)):roW W b=some (.cells c t fz):=by
 unfold roW;rw[h];rfl
/-- A type whose readings are data of this kind. -/
def Api(α:Type)[Dat α](t:TypeId):Prop :=
 Tryz.prog.cellsOf t=Dat.k α∧∀(H:Type) (enc:TypeId×Value→H) (W:World) (fuel:Nat) (cs:List Value) (x:DataW H×List MemPlace),
  DataW.trod enc Tryz.prog W 0 (fun _=>true) true fuel t cs=some x→(∀n∈x.1.weights Tryz.prog t,n≤reachBytes)→∃a:α,Dat.rep (roW W) cs a
theorem Are{n:Nat}(h:n≤reachBytes):n<2^60:=by unfold reachBytes at h;omega
theorem Ave{t:TypeId}(ht:Tryz.prog.underlying t=some .string)(hc:Tryz.prog.cellsOf t=1):Api ByteArray t :=
 ⟨hc,fun H enc W c cs x h hw=>by
  obtain⟨s,a,b,_⟩:=DataW.trod_string ht h
  refine⟨s,a,Are ?_⟩
  have:=hw s.data.toList.length (by rw[b];simp[DataW.weights])
  simpa using this⟩
theorem Awl{α:Type}{P:Nat→α→Prop}:∀n,(∀i,i<n→∃a,P i a)→∃xs:List α,xs.length=n∧∀i x,xs[i]?=some x→P i x
 | 0,_=>⟨[],rfl,fun i x h=>by cases h⟩
 | n+1,h=>by
  obtain⟨xs,h1,h2⟩:=Awl n fun i hi=>h i (by omega)
  obtain⟨a,ha⟩:=h n (by omega)
  refine⟨xs++[a],by simp[h1],fun i x hx=>?_⟩
  rcases Mg i n with hlt|hge
  ·rw[Ahm (by omega)]at hx;exact h2 i x hx
  ·have hi:i=n:=by
    have:=(Ig.1 hx).1
    simp only[lZ1,Qq]at this;omega
   subst hi
   rw[Bcw (by omega),h1,Aek]at hx
   cases hx;exact ha
theorem Bkm{a:Addr}:a.add 0=a:=by simp[Addr.add]
theorem Anx{b off i:Nat}:(⟨b,off,none⟩:Addr).add i=⟨b,off+i,none⟩:=by
 unfold Addr.add;split
 ·rename_i h;subst h;rfl
 ·rfl
theorem Ajj{W:World}{a:Addr}{k:Nat}{cs:List Value}(hk:1≤k)(h:W.cells? 0 a k=some cs):∃b off c t fz rest,a=⟨b,off,none⟩∧W.heap[b]?=some (.cells c t fz)∧c.toList.drop off=cs++rest∧cs.length=k:=by
 unfold World.cells? at h
 rw[if_pos (Mq _)]at h
 have hl:=mapM_some_length h
 rw[List.length_range]at hl
 have hg:∀j,j<k→W.cell? (a.add j)=cs[j]?:=fun j hj=>mapM_some_get h j j (by rw[Avy hj])
 obtain⟨b,off,f⟩:=a
 have d:=hg 0 hk
 rw[Bkm]at d
 obtain⟨v,hv⟩:∃v,cs[0]?=some v:=⟨_,Um (by omega)⟩
 rw[hv]at d
 unfold World.cell? at d
 simp only at d
 cases hb:W.heap[b]? with
 | none=>rw[hb]at d;cases d
 | some o =>
  cases o with
  | cells c t fz =>
   rw[hb]at d
   simp only at d
   cases f with
   | some s=>simp at d
   | none =>
    refine⟨b,off,c,t,fz,(c.toList.drop off).drop k,rfl,hb,?_,hl⟩
    have e:(c.toList.drop off).take k=cs:=by
     apply Ats
     intro j
     rw[Bdg]
     by_cases hj:j<k
     ·rw[if_pos hj,←hg j hj,Yx,Anx]
      unfold World.cell?
      simp only[hb]
      simp
     ·rw[if_neg hj,Og (by omega)]
    rw[←e,Aao]
  | _=>rw[hb]at d;cases d
theorem Td{H:Type}{P:Program}{e:TypeId}:∀{ds:List (DataW H)} {d:DataW H} {n:Nat},d∈ds→n∈d.weights P e→n∈DataW.weightsAll P e ds
 | [],_,_,h,_=>by cases h
 | d'::ds,d,n,h,hn=>by
  rw[DataW.weightsAll,Fb]
  rcases lZ8.1 h with rfl|h
  ·exact .inl hn
  ·exact .inr (Td h hn)
theorem Aop{α:Type}[Dat α]{t e:TypeId}(ht:Tryz.prog.underlying t=some (.slice e))(hc:Tryz.prog.cellsOf t=1)(hb:1≤Tryz.prog.bytesOf e)(hk:1≤Dat.k α)(he:Api α e):Api (List α) t :=
 ⟨hc,fun H enc W L cs x h hw=>by
  rcases DataW.trod_slice ht h with⟨v,_⟩|⟨a,len,cap,u,rest,n,_,B,C,_,D,_,E,F,_,_⟩
  ·exact⟨[],_,v,none,0,0,rfl,rfl,by omega,Et _,fun i x hx=>by cases hx⟩
  ·rw[C]at hw
   simp only[DataW.weights,ht]at hw
   have I:len<2^60:=by
    have:=hw _ mC
    simp only[Aax]at this
    refine Are (Mm ?_ this)
    rw[E]
    exact Mm (Mm (Bdn _ _) (Aej (Air _).symm)) (Nat.mul_le_mul_left _ hb)
   obtain⟨xs,J,q⟩:=Awl (P:=fun i (y:α)=>∃cs,W.cells? 0 (a.add (i*Tryz.prog.cellsOf e)) (Tryz.prog.cellsOf e)=some cs∧Dat.rep (roW W) cs y) len fun i hi=>by
    have d:=F i hi
    obtain⟨y,hy⟩:∃y,u[i]?=some y:=⟨_,Um (by omega)⟩
    rw[hy,Option.bind_eq_some_iff]at d
    obtain⟨ci,f,g⟩:=d
    obtain⟨z,hz⟩:=he.2 H enc W n ci y g fun m hm=>hw m (lZ0 _ (Lb _ (Td (Ml (lZ6 hy)) hm)))
    exact⟨z,ci,f,hz⟩
   refine⟨xs,_,B,some a,len,cap,rfl,J,I,D,fun i y hy=>?_⟩
   obtain⟨b',j,rfl⟩:∃b' j,a=⟨b',j,none⟩:=by
    have hi:=(Ig.1 hy).1
    obtain⟨p,K⟩:∃p,xs[0]?=some p:=⟨_,Um (by omega)⟩
    obtain⟨ci,f,_⟩:=q 0 p K
    rw[he.1,Aqc,Bkm]at f
    obtain⟨b,off,_,_,_,_,d,_⟩:=Ajj hk f
    exact⟨b,off,d⟩
   obtain⟨ci,f,g⟩:=q i y hy
   rw[he.1,Anx]at f
   obtain⟨b,off,c,t',fz,rs,d,G,w,_⟩:=Ajj hk f
   simp only[Addr.mk.injEq,and_true]at d
   obtain⟨rfl,rfl⟩:=d
   exact⟨b',j,rfl,b',_,c,t',fz,ci,rs,rfl,Vz G,g,w⟩⟩
end
section
open Go Go.RowKit Go.Conc
/-- A function's body,walked from what it is given. -/
def Agd(C:Ctx)(f:FuncId)(r:Nat)(args:List Value)(ρ:Ro)(σ:Own)(R:Value→Ro→Own→Prop):Prop :=
 ∃fn c,C.P.funcs[f]?=some fn∧fn.body=some c∧fn.results = #[.tmp r]∧args.length≤fn.ntmps ∧
  ∀Q:Hu,(∀e ρ' σ',R (e r) ρ' σ'→Q .ret e [] ρ' σ')→(∀e ρ' σ',R (e r) ρ' σ'→Q .normal e [] ρ' σ')→WpC C ⟨f,.normal,none⟩ fn.ntmps c Q (Pn args) [] ρ σ
theorem Aku{C:Ctx}{f:FuncId}{fn:Func}{c:Code}{n r:Nat}{args:List Value}{ρ:Ro}{σ:Own}{R:Value→Ro→Own→Prop}(hf:C.P.funcs[f]?=some fn)(hc:fn.body=some c)(hn:fn.ntmps=n)(ha:Nat.ble args.length n=true)(hr:fn.results = #[.tmp r])
  (h:∀Q:Hu,(∀e ρ' σ',R (e r) ρ' σ'→Q .ret e [] ρ' σ')→(∀e ρ' σ',R (e r) ρ' σ'→Q .normal e [] ρ' σ')→WpC C ⟨f,.normal,none⟩ n c Q (Pn args) [] ρ σ):Agd C f r args ρ σ R :=
 ⟨fn,c,hf,hc,hr,hn ▸ lZ5 ha,hn ▸ h⟩
end
section
open Go Go.WideShapes Go.ChangeShapes Go.RowKit Go.Conc
section
variable{H:Type}{enc:TypeId×Value→H}{W:World}{r:Reach}{base t:Nat}{v:Value}{d:DataW H}{p:List MemPlace}
theorem Ahr{α:Type}[Dat α]{el:TypeId}(hd:Api (List α) t)(ht:Tryz.prog.underlying t=some (.slice el))(hv:Value.okWide Tryz.prog W r base t v)(h:DataW.Trod enc Tryz.prog W 0 (fun _=>true) true t v d p)(hw:∀n∈d.weights Tryz.prog t,n≤reachBytes):∃a:List α,Val (roW W) v a:=by
 obtain⟨a,len,cap,rfl⟩:=okWide_slice ht hv
 obtain⟨b,hf⟩:=h
 obtain⟨xs,c⟩:=hd.2 H enc W b [.slice a len cap] (d,p) hf hw
 exact⟨xs,_,c,rfl⟩
end
theorem Agl{H:Type}{P:Program}{ts:List TypeId}{ds:List (DataW H)}(h:(DataW.weightsEach P ts ds).all (·≤reachBytes)=true){j:Nat}{t:TypeId}{d:DataW H}(ht:ts[j]?=some t)(hd:ds[j]?=some d):∀n∈d.weights P t,n≤reachBytes:=fun n hn=>by
 have:=Hs.1 h _ (DataW.weights_mem_each ht hd n hn)
 simpa using this
theorem Zw{P:Program}{W:World}{n:String}{g:Nat}{cs:Array Value}(hg:P.globalNamed n=some g)(h:W.var? P n=some cs):∃t fz,W.heap[g]?=some (.cells cs t fz):=by
 simp only[World.var?,hg,Bdo]at h
 split at h
 ·rename_i cs' t fz hh
  cases h
  exact⟨t,fz,hh⟩
 ·cases h
end
section
open Go Go.WideShapes Go.ChangeShapes Go.RowKit Go.Conc
theorem Art:ownKnob Tryz.prog.godebug=none:=by kernel_rfl
theorem Aid:laidOutB Tryz.prog=true:=by kernel_rfl
theorem Sb{H:Type}{enc:TypeId×Value→H}{P:Program}{w:World}{base:Nat}{spare:Nat→Bool}{held:Bool}:∀{ts:List TypeId} {vs:List Value} {ds:List (DataW H)} {ps:List MemPlace},DataW.TrodAll enc P w base spare held ts vs ds ps→vs.length=ts.length∧ds.length=ts.length
 | [],[],[],_,_=>⟨rfl,rfl⟩
 | t::ts,v::vs,d::ds,_,⟨p,q,_,h,_⟩=>by have:=Sb h;simp[this]
 | [],[],_::_,_,h=>h.elim
 | [],_::_,_,_,h=>h.elim
 | _::_,[],_,_,h=>h.elim
 | _::_,_::_,[],_,h=>h.elim
theorem Oo{H:Type}{enc:TypeId×Value→H}{W W':World}(hb:Below W.heap.size W W'):∀{ts:List TypeId} {vs:List Value} {ds:List (DataW H)} {ps:List MemPlace},(∀t∈ts,Tryz.prog.readableRec t=true∧t<Tryz.prog.types.size)→(∀x∈ps,x.block<W.heap.size) →
  DataW.TrodAll enc Tryz.prog W 0 (fun _=>true) true ts vs ds ps→DataW.TrodAll enc Tryz.prog W' 0 (fun b=>decide (b<W.heap.size)) true ts vs ds ps
 | [],[],[],_,_,_,h=>h
 | t::ts,v::vs,d::ds,_,ht,hl,⟨p,q,h1,h2,he⟩=>⟨p,q,Below.trod Aid (ht t mC).1 (ht t mC).2 h1 hb fun x hx=>hl x (he ▸ Lb _ hx),Oo hb (fun t h=>ht t (lZ0 _ h)) (fun x hx=>hl x (he ▸ Ix _ hx)) h2,he⟩
 | [],[],_::_,_,_,_,h=>h.elim
 | [],_::_,_,_,_,_,h=>h.elim
 | _::_,[],_,_,_,_,h=>h.elim
 | _::_,_::_,[],_,_,_,h=>h.elim
/-- A tied card without a companion,of a function that starts goroutines. -/
theorem Zm(Lk:Looks){p:Pinned}{s:OpenSpec}{c:OpenClaim}(kinds:List LaidKind)(tests:Bool)(har:Bool×String)(lk:Bool)
  (hc:c.holds p s) (hw:c.wfByText s=true) (htie:c.laidByTextAt Lk p kinds tests)
  (hst:c.start = .entering) (hnb:c.noBlocks=false∧c.again=false) (hm:p.checked.prog.mainIs=some (har.1,har.2.toList)) (hn:(!har.1&&har.2.isEmpty && !lk)=false)
  (hl:∀f fn,p.checked.prog.funcNamed c.func=some f→p.checked.prog.funcs[f]?=some fn→lk=p.checked.prog.looks []∧∀(j:Nat) t,fn.params[j]?=some t→p.checked.prog.wantsStandIn t=false)
  (hg:true=c.goesBy p.checked.prog) :
  Claim7.holds p (.plain s) {stood:={row:=c,standIns:=[],harness:=har,looks:=lk},kinds:=[],alts:=[],goes:=true,laidByText:=true,laidKinds:=kinds,laidTests:=tests,laidLooks:=Lk}:=by
 have a:∀r:OpenClaim,Claim7.isSixth {stood:={row:=r,standIns:=[],harness:=har,looks:=lk},kinds:=[]}=false:=fun r=>by simpa[Claim7.isSixth]using hn
 exact⟨Claim7.tied_new_at Lk kinds tests (Claim7.new_of_sixth hc har lk hst hnb hm (a c) hl) hw,(fun D hD=>by cases hD),htie,(fun h=>by cases h),hg⟩
end
section
open Go
/-- A call that returns,or panics. -/
def CallsP(C:Ctx)(f:FuncId)(args:Array Value)(ρ:Ro)(σ:Own)(R X:Value→Ro→Own→Prop):Prop :=
 ∀c cs,GoesH C (fun fr cs' ρ' σ'=>cs'=cs∧((∃v,fr=Frame.finish c v∧R v ρ' σ')∨∃x,fr=Frame.raise c [⟨x,false,false⟩]∧X x ρ' σ')) (Frame.enter C.P f args .normal) (c::cs) ρ σ
def RoundP(C:Ctx)(l:Nat)(f:FuncId)(tmps:Array Value)(assign body:Code)(ρ:Ro)(σ:Own)(R X:Value→Ro→Own→Prop):Prop :=
 ∀c cs,GoesH C (fun fr cs' ρ' σ'=>cs'=cs∧((∃v,fr=Frame.finish c v∧R v ρ' σ')∨∃x,fr=Frame.raise c [⟨x,false,false⟩]∧X x ρ' σ')) (Frame.round l f tmps assign body .normal) (c::cs) ρ σ
theorem CallsP.mono{C:Ctx}{f:FuncId}{args:Array Value}{ρ:Ro}{σ:Own}{R R' X X':Value→Ro→Own→Prop}(h:CallsP C f args ρ σ R X)(hr:∀v ρ' σ',R v ρ' σ'→R' v ρ' σ')(hx:∀v ρ' σ',X v ρ' σ'→X' v ρ' σ'):CallsP C f args ρ σ R' X' :=
 fun c cs=>(h c cs).mono fun _ _ _ _ ⟨d,a⟩=>⟨d,a.elim (fun⟨v,a,b⟩=>.inl ⟨v,a,hr _ _ _ b⟩) fun⟨v,a,b⟩=>.inr ⟨v,a,hx _ _ _ b⟩⟩
theorem RoundP.mono{C:Ctx}{l:Nat}{f:FuncId}{tmps:Array Value}{assign body:Code}{ρ:Ro}{σ:Own}{R R' X X':Value→Ro→Own→Prop}(h:RoundP C l f tmps assign body ρ σ R X)(hr:∀v ρ' σ',R v ρ' σ'→R' v ρ' σ')(hx:∀v ρ' σ',X v ρ' σ'→X' v ρ' σ'):RoundP C l f tmps assign body ρ σ R' X' :=
 fun c cs=>(h c cs).mono fun _ _ _ _ ⟨d,a⟩=>⟨d,a.elim (fun⟨v,a,b⟩=>.inl ⟨v,a,hr _ _ _ b⟩) fun⟨v,a,b⟩=>.inr ⟨v,a,hx _ _ _ b⟩⟩
/-- What follows an operation that calls what may panic. -/
def NextP(C:Ctx)(K:Value→List Deferred→Ro→Own→Prop)(X:Value→Ro→Own→Prop)(ds:List Deferred)(ρ:Ro)(nx:Next)(σ:Own):Prop :=
 match nx with
 | .enter f args=>CallsP C f args ρ σ (fun v ρ' σ'=>K v ds ρ' σ') X
 | .round l f tmps assign body=>RoundP C l f tmps assign body ρ σ (fun v ρ' σ'=>K v ds ρ' σ') X
 | _=>False
theorem NextP.mono{C:Ctx}{K K':Value→List Deferred→Ro→Own→Prop}{X X':Value→Ro→Own→Prop}{ds:List Deferred}{ρ:Ro}{nx:Next}{σ:Own}(h:NextP C K X ds ρ nx σ)(hk:∀v ds ρ σ,K v ds ρ σ→K' v ds ρ σ)(hx:∀v ρ σ,X v ρ σ→X' v ρ σ):NextP C K' X' ds ρ nx σ:=by
 cases nx<;>simp only[NextP]at h ⊢
 ·exact h.mono (fun _ _ _ h=>hk _ _ _ _ h) hx
 ·exact h.mono (fun _ _ _ h=>hk _ _ _ _ h) hx
section
variable{C:Ctx}{V:Hn}{b:FB}{n:Nat}{l₀ rest:List Oper}{Q:Env→List Deferred→Ro→Own→Prop}{e:Env}{ds:List Deferred}{ρ:Ro}{σ:Own}
theorem Afn{tm:Array Value}{todo:List Item}{x:Value}:Frame.raise (Fr b tm ds todo) [⟨x,false,false⟩]=FrP b tm ds todo x:=rfl
/-- An operation that calls what may panic. -/
theorem Bmp{o:Oper}(hw:Bz l₀.toArray o e=true)(h:wpS C.P ρ (execOp (Af e) o) σ (NextP C (fun v=>Db C V b n l₀ rest Q (Ja e o.dst v)) (fun x ρ' σ'=>V x e ds ρ' σ') ds ρ)):Db C V b n l₀ (o::rest) Q e ds ρ σ:=by
 intro pre j hs hk tm k cs ht
 have ho:l₀.toArray[pre.length]?=some o:=by subst j;simp
 rw[lZ2,Yy]
 have m:∀e ds ρ σ,Db C V b n l₀ rest Q e ds ρ σ→Oz C V b n l₀.toArray (List.range' (pre.length+1) rest.length) Q e ds ρ σ:=fun e ds ρ σ h'=>by
  have:=h' (pre++[o]) (by rw[j];simp) hs hk
  simpa using this
 have hev:=ht.eval b ds (.inRegion l₀.toArray (pre.length::List.range' (pre.length+1) rest.length)::k)
 refine .step (fun fr' cs' σ'=>∃nx,NextP C (fun v=>Db C V b n l₀ rest Q (Ja e o.dst v)) (fun x ρ' σ'=>V x e ds ρ' σ') ds ρ nx σ'∧Ss C.P (Fr b tm ds (.inRegion l₀.toArray (pre.length::List.range' (pre.length+1) rest.length)::k)) cs nx fr' cs') (fun W y=>?_) ?_
 ·obtain⟨nx,σ',W',es,g,a,p,q⟩:=Rr _ σ _ W #[] h y
  have hd:∀c,o.op = .defer c→b.round=none:=by
   intro c hc
   have hx:∃d,nx = .defer d:=by
    have w:execOp (Af e) o=(resolve (Af e) c o.type).bind fun d=>pure (Next.defer d):=by
     unfold execOp;rw[hc];rfl
    rw[w,Sem.runT_bind']at g
    split at g
    ·rename_i a' w' es' _
     have:(Result.ok (Next.defer a') w',es')=(Result.ok nx W',es):=g
     simp only[Prod.mk.injEq,Result.ok.injEq]at this
     exact⟨a',this.1.1.symm⟩
    ·simp at g
   obtain⟨d,rfl⟩:=hx
   exact a.elim
  have hnx:∃fr' cs',Ss C.P (Fr b tm ds (.inRegion l₀.toArray (pre.length::List.range' (pre.length+1) rest.length)::k)) cs nx fr' cs':=by
   cases nx<;>simp only[NextP]at a<;>exact⟨_,_,rfl,rfl⟩
  obtain⟨fr',cs',es',t,i,u⟩:=Sx (s:=execOp (Af e) o) (by exact hk) (by simp[Fr]) g hnx
  refine⟨fr',cs',W',es',σ',?_,p,fun ev he=>Amj q (u ev he),nx,a,i⟩
  rw[Np ho (by rw[Ij hs ht];exact hw) hd,hev]
  exact t
 ·rintro fr' cs' σ' ⟨nx,a,i⟩
  cases nx<;>simp only[NextP]at a
  case enter f args =>
   obtain⟨rfl,rfl⟩:=i
   refine(a _ cs).bind ?_
   rintro _ _ ρ' σ'' ⟨rfl,⟨v,rfl,hv⟩|⟨x,rfl,hx⟩⟩
   ·rw[Ju ho]
    exact m _ _ _ _ hv _ k _ (Jj hs ht ho v)
   ·exact .stop (.inr ⟨rfl,x,tm,_,ds,_,ht.2,Afn,hx⟩)
  case round l f tmps assign body =>
   obtain⟨rfl,rfl⟩:=i
   refine(a _ cs).bind ?_
   rintro _ _ ρ' σ'' ⟨rfl,⟨v,rfl,hv⟩|⟨x,rfl,hx⟩⟩
   ·rw[Ju ho]
    exact m _ _ _ _ hv _ k _ (Jj hs ht ho v)
   ·exact .stop (.inr ⟨rfl,x,tm,_,ds,_,ht.2,Afn,hx⟩)
/-- panic(x) -/
theorem Bir{dd:Option Tmp}{x:Operand}{ty t:TypeId}{pos:String}{af:Array Edge}{g:Option (Nat×Bool)}{u:Value}(hw:Bz l₀.toArray ⟨dd,.panic x,ty,pos,af,g⟩ e=true)(hx:Af e x = .iface t u)(hv:V (.iface t u) e ds ρ σ):Db C V b n l₀ (⟨dd,.panic x,ty,pos,af,g⟩::rest) Q e ds ρ σ:=by
 intro pre a hs hk tm k cs ht
 have ho:l₀.toArray[pre.length]?=some ⟨dd,.panic x,ty,pos,af,g⟩:=by subst a;simp
 rw[lZ2,Yy]
 have hev:=ht.eval b ds (.inRegion l₀.toArray (pre.length::List.range' (pre.length+1) rest.length)::k)
 refine Eh (fr':=FrP b tm ds (.inRegion l₀.toArray (pre.length::List.range' (pre.length+1) rest.length)::k) (.iface t u)) (cs':=cs) (fun W=>?_) (.stop (.inr ⟨rfl,_,tm,_,ds,_,ht.2,rfl,hv⟩))
 rw[Np ho (by rw[Ij hs ht];exact hw) (fun c hc=>by cases hc),hev]
 have hr:(execOp (Af e) ⟨dd,.panic x,ty,pos,af,g⟩).runT C.P W #[]=(.halt (.panic (.iface t u)) W,#[]):=by
  show ((Instr.panic (Af e x)).bind _:Sem Next).runT C.P W #[]=_
  rw[hx];rfl
 simp[stepG.apply,-Sem.runT_eq,hr,GStep.after,seen,Conc.G,Fr,FrP,Frame.raise]
end
section
variable{C:Ctx}{V:Hn}{b:FB}{n:Nat}{e:Env}{ds:List Deferred}{ρ:Ro}{σ:Own}
/-- A frame that has deferred nothing is unwound. -/
theorem Zr{S:Cy}{tm:Array Value}{todo:List Item}{x:Value}{c:Frame}{cs:List Frame}{fn:Func}(hf:C.P.funcs[b.fn]?=some fn)(h:GoesH C S (Frame.raise c [⟨x,false,false⟩]) cs ρ σ):GoesH C S (FrP b tm [] todo x) (c::cs) ρ σ :=
 Eh (fun W=>by
  simp[Conc.G,stepG,FrP,Fr,unwind,Frame.catches,hf]) h
theorem Aok{f:FuncId}{fn:Func}{c:Code}{args:List Value}{R X:Value→Ro→Own→Prop}(hf:C.P.funcs[f]?=some fn)(hc:fn.body=some c)(hn:fn.ntmps=n)(ha:args.length≤n)
  (h:WpP C (fun x _ ds ρ' σ'=>ds=[]∧X x ρ' σ') ⟨f,.normal,none⟩ n c (fun ex e ds ρ' σ'=>(∀id,ex ≠ .exit id)∧Aki C fn R e ρ' ds σ') (Pn args) [] ρ σ):CallsP C f args.toArray ρ σ R X:=by
 intro c' cs
 have g:Frame.enter C.P f args.toArray .normal=Fr ⟨f,.normal,none⟩ (args.toArray++Array.replicate (n-args.toArray.size) undef) [] [.code c]:=by
  simp[Frame.enter,hf,hc,hn,Fr]
 rw[g]
 refine(h _ [] (c'::cs) (Tn ha)).bind ?_
 rintro _ _ ρ' σ' (⟨rfl,ex,tm',e',ds',a,i,⟨j,k⟩,d,rfl⟩|⟨rfl,x,tm',_,ds',a,_,rfl,rfl,hX⟩)
 ·have fin:∀a,GoesH C (fun fr cs' ρ' σ'=>cs'=cs∧((∃v,fr=Frame.finish c' v∧R v ρ' σ')∨∃x,fr=Frame.raise c' [⟨x,false,false⟩]∧X x ρ' σ')) {Fr ⟨f,.normal,none⟩ tm' ds' a with mode:=.returning} (c'::cs) ρ' σ' :=
   fun a=>Ahz (b:=⟨f,.normal,none⟩) hf rfl i k fun v ρ'' σ'' hv=>.stop ⟨rfl,.inl ⟨v,rfl,hv⟩⟩
  cases ex with
  | normal =>
   cases d
   exact Eh (fr':={Fr ⟨f,.normal,none⟩ tm' ds' [] with mode:=.returning}) (cs':=c'::cs) (fun W=>by simp[Conc.G,stepG,stepG.exec,Fr]) (fin _)
  | exit id=>exact absurd rfl (j id)
  | ret =>
   obtain⟨pre,rfl⟩:=d
   exact Eh (fr':={Fr ⟨f,.normal,none⟩ tm' ds' (.code .ret::(pre++[])) with mode:=.returning}) (cs':=c'::cs) (fun W=>by simp[Conc.G,stepG,stepG.exec,Fr]) (fin _)
 ·exact Zr (b:=⟨f,.normal,none⟩) hf (.stop ⟨rfl,.inr ⟨x,rfl,hX⟩⟩)
end
end
section
open Go
def inR(n low high:Int):Bool:=decide (low≤n)&&decide (n≤high)
theorem Fz{n low high:Int}:inR n low high=true↔low≤n∧n≤high:=by simp[inR]
theorem Aij{n low high:Int}:inR n low high=false↔n<low∨high<n:=by
 cases h:inR n low high
 ·have:¬(low≤n∧n≤high):=fun h'=>by rw[Fz.2 h']at h;cases h
  simp only[true_iff];omega
 ·have:=Fz.1 h
  simp only[Bool.true_eq_false,false_iff];omega
theorem Eg{p:Nat→Prop}{i:Nat}(h:∀j,j<i→p j)(h':p i):∀j,j<i+1→p j:=fun j hj=>by
 rcases Mg j i with hlt|hge
 ·exact h j hlt
 ·obtain rfl:j=i:=by omega
  exact h'
/-- A byte that no name has. -/
def Ov(c:Int):Bool:=(decide (c<97)||decide (c>122))&&(decide (c<48)||decide (c>57))&&(c != 45)
def Alm(s:ByteArray)(j:Nat):Bool:=match s[j]? with|some c=>!Ov ((c.toNat:Nat):Int)|none=>true
def Qb(s:ByteArray):Bool:=match s[0]? with|some c=>!decide (((c.toNat:Nat):Int)<97) && !decide (((c.toNat:Nat):Int)>122)|none=>true
def Hg(s:ByteArray):Bool:=inR s.size 1 14&&Qb s&&(List.range s.size).all (Alm s)
theorem Awr{s:ByteArray}:(List.range s.size).all (Alm s)=true↔∀j,j<s.size→Alm s j=true:=by simp
theorem Biz{s:ByteArray}{j:Nat}(h:j<s.size)(h0:Alm s j=false):(List.range s.size).all (Alm s)=false:=by
 cases hh:(List.range s.size).all (Alm s) with
 | false=>rfl
 | true=>rw[Awr.1 hh j h]at h0;cases h0
/-- The first index of a property. -/
def Cl(n:Nat)(p:Nat→Bool):Option Nat:=(List.range n).find? p
theorem Fh{n i:Nat}{p:Nat→Bool}(h:∀j,j<i→p j=false)(hi:i<n)(hp:p i=true):Cl n p=some i:=by
 unfold Cl
 rw[List.find?_range_eq_some]
 exact⟨hp,by simpa using hi,fun j hj=>by simp[h j hj]⟩
theorem Ep{n:Nat}{p:Nat→Bool}(h:∀j,j<n→p j=false):Cl n p=none:=by
 unfold Cl
 rw[List.find?_eq_none]
 intro j hj
 simp[h j (by simpa using hj)]
theorem Ft{n:Nat}{p:Nat→Bool}:(∃i,i<n∧p i=true∧(∀j,j<i→p j=false)∧Cl n p=some i)∨((∀j,j<n→p j=false)∧Cl n p=none):=by
 cases h:Cl n p with
 | some i =>
  unfold Cl at h
  rw[List.find?_range_eq_some]at h
  exact .inl ⟨i,by simpa using h.2.1,h.1,fun j hj=>by simpa using h.2.2 j hj,rfl⟩
 | none =>
  unfold Cl at h
  rw[List.find?_eq_none]at h
  exact .inr ⟨fun j hj=>by simpa using h j (by simpa using hj),rfl⟩
def atP{α:Type}(l:List α)(p:α→Bool)(i:Nat):Bool:=match l[i]? with|some x=>p x|none=>false
def Oi{α:Type}(l:List α)(p:α→Bool):Int:=match Cl l.length (atP l p) with|some i=>(i:Int)|none=>-1
theorem Yq{α:Type}{l:List α}{p:α→Bool}:decide (Oi l p≥0)=l.any p:=by
 rw[Atu,decide_eq_true_eq,Bdk]
 unfold Oi
 rcases Ft (n:=l.length) (p:=atP l p) with⟨i,hi,hp,_,he⟩|⟨b,he⟩
 ·rw[he]
  simp only[ge_iff_le,Apq,true_iff]
  unfold atP at hp
  cases hx:l[i]? with
  | none=>rw[hx]at hp;cases hp
  | some x=>rw[hx]at hp;exact⟨x,lZ6 hx,hp⟩
 ·rw[he]
  constructor
  ·intro h;simp at h
  ·rintro⟨x,hx,hs⟩
   obtain⟨i,hi⟩:=Aau hx
   have:=b i (Ig.1 hi).1
   unfold atP at this
   simp only[hi,hs]at this
   cases this
/-- The bytes of a name. -/
theorem Akl{s:ByteArray}:(s.data.toList.any fun c=>Ov ((c.toNat:Nat):Int)) = !(List.range s.size).all (Alm s):=by
 rw[Atu]
 simp only[Bdk,Bdh,List.all_eq_false,Aip]
 have a:∀i (h:i<s.size),s[i]?=some (s.data[i]'h):=fun i h=>by
  rw[getElem?_pos s i h];rfl
 constructor
 ·rintro⟨c,hc,hb⟩
  obtain⟨i,hi,rfl⟩:=Bde hc
  have hi':i<s.size:=by simpa using hi
  refine⟨i,hi',?_⟩
  simp only[Alm,a i hi']
  simpa using hb
 ·rintro⟨i,hi,hb⟩
  refine⟨s.data[i]'hi,by simp,?_⟩
  simp only[Alm,a i hi]at hb
  simpa using hb
end
section
open Go
variable{mn:Bool}{X:Frame→List Frame→Ro→Own→Cy→Prop}{ρ:Ro}{σ:Own}
theorem Bgz{n low high:Int} :CallsH (CX mn X) 42 #[iV n,iV low,iV high] ρ σ (rP ρ σ (.bool (inR n low high))):=by
 refine Bf 15 [6] Bsq rfl fun Q b h=>w_q rfl rfl fun f d=>Av bF (Arx rfl rfl d fun g c=>Ay (iV low) (Ay (iV n) (l_v (Uz rfl rfl) (Ay (.bool (decide (low≤n))) (Cn (decide (low≤n)) (fun a=>?_) (fun a=>?_))))))
 ·have e:=lZ3 a
  refine l_M (iV n) (gY rfl a) rfl (l_M (iV high) (gY rfl a) rfl (Aa (gY rfl a) (Uz rfl rfl) (l_v (Bt rfl a (v:=.bool (decide (n≤high))) rfl) (Av (.bool (decide (n≤high))) (l_k c (Aq (b (rT (.bool (decide (n≤high))) ?_))))))))
  simp only[inR,a,bZl]
 have e:=lZ4 a
 refine Ap (gN rfl a) (Ap (gN rfl a) (Ap (gN rfl a) (l_v (Bn rfl a (v:=bF) rfl) (Av bF (l_k c (Aq (b (rT bF ?_))))))))
 simp only[inR,a,bZl]
theorem Ast{s:ByteArray} :CallsH (CX mn X) 30 #[.string s] ρ σ (rP ρ σ (.bool (Hg s))):=by
 refine Bf 46 [2] Bss rfl fun Q E aq=>w_q rfl rfl fun K1 O=>Av bF (Ary rfl rfl O fun K2 K3 Y H=>Ay (.string s) (l_v (Afz Brs (s:=s) rfl) (Arv (Ii Bgz Bsq ?_))))
 refine l_v (Iy rfl) (Ay (.bool (!(inR (s.size:Int) 1 14))) (Cn (!(inR (s.size:Int) 1 14)) (fun b=>?_) (fun b=>?_)))
 ·have I:=not_eq_t b
  have q5:=Aij.1 I
  refine Ap (gN rfl b) (Ap (gN rfl b) (Ap (gN rfl b) (l_v (Bt rfl b (v:=bT) rfl) (Ay bT (Ap (gN rfl rfl) (Ap (gN rfl rfl) (Ap (gN rfl rfl) (l_v (Bt rfl rfl (v:=bT) rfl) (l_k H (Co rfl rfl (w_q rfl rfl fun K6 k6=>Av bF (l_k k6 (Aq (E (rT bF ?_)))))))))))))))
  simp only[Hg,Qb,b,I,bZl]
 have k:=Ev b
 have q7:=Fz.1 k
 refine l_M (.string s) (gY rfl b) rfl ?_
 obtain⟨B,D⟩:=Alc (s:=s) (i:=0) (by omega)
 refine Aa (gY rfl b) (Ace 0 B Brs rfl (q:=0) rfl rfl D) (Aa (gY rfl b) (Da rfl rfl) (l_v (Bn rfl b (v:=.bool (decide ((B.toNat:Int)<97))) rfl) (Ay (.bool (decide ((B.toNat:Int)<97))) (Cn (decide ((B.toNat:Int)<97)) (fun c=>?_) (fun c=>?_)))))
 ·have q9:=lZ3 c
  refine Ap (gN rfl c) (Ap (gN rfl c) (Ap (gN rfl c) (l_v (Bt rfl c (v:=bT) rfl) (l_k H (Co rfl rfl (w_q rfl rfl fun ae P=>Av bF (l_k P (Aq (E (rT bF ?_))))))))))
  simp only[Hg,Qb,D,b,k,c,bZl]
 have q9:=lZ4 c
 refine l_M (.string s) (gY rfl c) rfl (Aa (gY rfl c) (Ace 0 B Brs rfl (q:=0) rfl rfl D) (Aa (gY rfl c) (Gl rfl rfl) (l_v (Bn rfl c (v:=.bool (decide ((B.toNat:Int)>122))) rfl) (l_k H (Bb (t:=decide ((B.toNat:Int)>122)) rfl (fun f=>?_) (fun f=>?_))))))
 ·have a6:=lZ3 f
  refine w_q rfl rfl fun af R=>Av bF (l_k R (Aq (E (rT bF ?_))))
  simp only[Hg,Qb,D,b,k,c,f,bZl]
 have a6:=lZ4 f
 refine Al (kk Y ?_)
 refine Asb rfl rfl fun ag ah T U=>Av (iV 0) (l_k U (Ao (Cc (fun mm ee dd ρ' σ'=>∃(i:Nat),(s.size-i)=mm∧[]=dd∧ρ=ρ'∧σ=σ'∧ee 0=(.string s)∧ee 3=iV i∧(i≤s.size)∧(∀j,j<i→Alm s j=true)∧True) (m:=_) ⟨0,rfl,rfl,rfl,rfl,rfl,rfl,Mq _,fun j h=>absurd h (Aeq _),trivial⟩ ?_)))
 rintro ar ao _ _ _ ⟨i,rfl,rfl,rfl,rfl,y,z,au,J,_⟩
 refine Asb rfl rfl fun ai aj V W=>l_v (Ah (v:=iV i) z) (l_v (Ah (v:=.string s) y) (l_v (Afz Brs (s:=s) rfl) (l_v (Da rfl rfl) (l_k W (Bb (t:=decide ((i:Int)<(s.size:Int))) rfl (fun g=>?_) (fun g=>?_))))))
 ·have a7:=lZ3 g
  refine Al (kk V ?_)
  refine Ai fun ak Z=>Ao (w_q rfl rfl fun al a0=>l_v (Ah (v:=.string s) y) (l_v (Ah (v:=iV i) z) ?_))
  obtain⟨a,x⟩:=Alc (s:=s) (i:=i) (by omega)
  refine l_v (Ace i a Brs rfl (q:=(i:Int)) rfl rfl x) (Av (.int .u8 (a.toNat:Int)) (Asa a0 fun K a1=>?_))
  have C:∀(bd:Bool) (ee:Env),(ee 0=(.string s))∧(ee 3=iV i)∧(ee 45=(.bool bd))∧(bd=true→Alm s i=false)∧(bd=false→Alm s i=true)∧True→K ee [] ρ σ:=by
   rintro bd ap ⟨L,M,N,a4,a5,_⟩
   apply a1
   refine Bb (t:=bd) N (fun F=>?_) (fun F=>?_)
   ·refine w_q rfl rfl fun am a2=>Av bF (l_k a2 (Aq (E (rT bF ?_))))
    have G:=Biz (by omega) (a4 F)
    simp only[Hg,G,b,k,c,f,g,F,bZl]
   refine Al (kk Z ?_)
   refine Ag rfl rfl (l_v (Ah (v:=iV i) M) (l_v (Ga (((i+1):Nat):Int)) (Av (iV ((i+1):Nat)) (Ac ?_))))
   refine⟨_,?_,(i+1),rfl,rfl,rfl,rfl,L,rfl,(by omega),(Eg J (a5 F)),trivial⟩
   omega
  refine Ag rfl rfl (Ay (.int .u8 (a.toNat:Int)) (l_v (Da rfl rfl) (Ay (.bool (decide ((a.toNat:Int)<97))) (Cn (decide ((a.toNat:Int)<97)) (fun e=>?_) (fun e=>?_)))))
  ·have a8:=lZ3 e
   refine Ap (gN rfl e) (Ap (gN rfl e) (l_v (Bt rfl e (v:=bT) rfl) (Ay bT (l_M (.int .u8 (a.toNat:Int)) (gY rfl rfl) rfl (Aa (gY rfl rfl) (Da rfl rfl) (l_M (.bool (decide ((a.toNat:Int)<48))) (gY rfl rfl) rfl (Cn (decide ((a.toNat:Int)<48)) (fun n=>?_) (fun n=>?_))))))))
   ·have a9:=lZ3 n
    refine Ap (gN rfl n) (Ap (gN rfl n) (Aa (gY rfl rfl) (Bt rfl n (v:=bT) rfl) (l_v (Bt rfl rfl (v:=bT) rfl) (Ay bT (l_M (.int .u8 (a.toNat:Int)) (gY rfl rfl) rfl (Aa (gY rfl rfl) (Dg rfl rfl) (l_v (Bt rfl rfl (v:=.bool ((a.toNat:Int) != 45)) rfl) (Ac ?_))))))))
    refine C ((a.toNat:Int) != 45) _ ⟨y,z,rfl,fun h=>by simp only[Alm,x,Ov,h,b,k,c,f,g,e,n,bZl],fun h=>by simp only[Alm,x,Ov,h,b,k,c,f,g,e,n,bZl],trivial⟩
   have a9:=lZ4 n
   refine l_M (.int .u8 (a.toNat:Int)) (gY rfl n) rfl (Aa (gY rfl n) (Gl rfl rfl) (Aa (gY rfl rfl) (Bn rfl n (v:=.bool (decide ((a.toNat:Int)>57))) rfl) (l_v (Bt rfl rfl (v:=.bool (decide ((a.toNat:Int)>57))) rfl) (Ay (.bool (decide ((a.toNat:Int)>57))) (Cn (decide ((a.toNat:Int)>57)) (fun u=>?_) (fun u=>?_))))))
   ·have aa:=lZ3 u
    refine l_M (.int .u8 (a.toNat:Int)) (gY rfl u) rfl (Aa (gY rfl u) (Dg rfl rfl) (l_v (Bt rfl u (v:=.bool ((a.toNat:Int) != 45)) rfl) (Ac ?_)))
    refine C ((a.toNat:Int) != 45) _ ⟨y,z,rfl,fun h=>by simp only[Alm,x,Ov,h,b,k,c,f,g,e,n,u,bZl],fun h=>by simp only[Alm,x,Ov,h,b,k,c,f,g,e,n,u,bZl],trivial⟩
   have aa:=lZ4 u
   refine Ap (gN rfl u) (Ap (gN rfl u) (l_v (Bn rfl u (v:=bF) rfl) (Ac ?_)))
   refine C false _ ⟨y,z,rfl,fun h=>absurd h (by decide),fun h=>by simp only[Alm,x,Ov,b,k,c,f,g,e,n,u,bZl],trivial⟩
  have a8:=lZ4 e
  refine l_M (.int .u8 (a.toNat:Int)) (gY rfl e) rfl (Aa (gY rfl e) (Gl rfl rfl) (l_v (Bn rfl e (v:=.bool (decide ((a.toNat:Int)>122))) rfl) (Ay (.bool (decide ((a.toNat:Int)>122))) (Cn (decide ((a.toNat:Int)>122)) (fun d=>?_) (fun d=>?_)))))
  ·have ab:=lZ3 d
   refine l_M (.int .u8 (a.toNat:Int)) (gY rfl d) rfl (Aa (gY rfl d) (Da rfl rfl) (l_M (.bool (decide ((a.toNat:Int)<48))) (gY rfl d) rfl (Cn (decide ((a.toNat:Int)<48)) (fun p=>?_) (fun p=>?_))))
   ·have ac:=lZ3 p
    refine Ap (gN rfl p) (Ap (gN rfl p) (Aa (gY rfl d) (Bt rfl p (v:=bT) rfl) (l_v (Bt rfl d (v:=bT) rfl) (Ay bT (l_M (.int .u8 (a.toNat:Int)) (gY rfl rfl) rfl (Aa (gY rfl rfl) (Dg rfl rfl) (l_v (Bt rfl rfl (v:=.bool ((a.toNat:Int) != 45)) rfl) (Ac ?_))))))))
    refine C ((a.toNat:Int) != 45) _ ⟨y,z,rfl,fun h=>by simp only[Alm,x,Ov,h,b,k,c,f,g,e,d,p,bZl],fun h=>by simp only[Alm,x,Ov,h,b,k,c,f,g,e,d,p,bZl],trivial⟩
   have ac:=lZ4 p
   refine l_M (.int .u8 (a.toNat:Int)) (gY rfl p) rfl (Aa (gY rfl p) (Gl rfl rfl) (Aa (gY rfl d) (Bn rfl p (v:=.bool (decide ((a.toNat:Int)>57))) rfl) (l_v (Bt rfl d (v:=.bool (decide ((a.toNat:Int)>57))) rfl) (Ay (.bool (decide ((a.toNat:Int)>57))) (Cn (decide ((a.toNat:Int)>57)) (fun w=>?_) (fun w=>?_))))))
   ·have ad:=lZ3 w
    refine l_M (.int .u8 (a.toNat:Int)) (gY rfl w) rfl (Aa (gY rfl w) (Dg rfl rfl) (l_v (Bt rfl w (v:=.bool ((a.toNat:Int) != 45)) rfl) (Ac ?_)))
    refine C ((a.toNat:Int) != 45) _ ⟨y,z,rfl,fun h=>by simp only[Alm,x,Ov,h,b,k,c,f,g,e,d,p,w,bZl],fun h=>by simp only[Alm,x,Ov,h,b,k,c,f,g,e,d,p,w,bZl],trivial⟩
   have ad:=lZ4 w
   refine Ap (gN rfl w) (Ap (gN rfl w) (l_v (Bn rfl w (v:=bF) rfl) (Ac ?_)))
   refine C false _ ⟨y,z,rfl,fun h=>absurd h (by decide),fun h=>by simp only[Alm,x,Ov,b,k,c,f,g,e,d,p,w,bZl],trivial⟩
  have ab:=lZ4 d
  refine Ap (gN rfl d) (Ap (gN rfl d) (Ap (gN rfl d) (Ap (Jf rfl rfl rfl) (Ap (Jf rfl rfl rfl) (Ap (gN rfl d) (l_v (Bn rfl d (v:=bF) rfl) (Ay bF (Ap (gN rfl rfl) (Ap (gN rfl rfl) (l_v (Bn rfl rfl (v:=bF) rfl) (Ac ?_)))))))))))
  refine C false _ ⟨y,z,rfl,fun h=>absurd h (by decide),fun h=>by simp only[Alm,x,Ov,b,k,c,f,g,e,d,bZl],trivial⟩
 have a7:=lZ4 g
 refine Bx (kk T ?_)
 refine w_q rfl rfl fun an a3=>Av bT (l_k a3 (Aq (E (rT bT ?_))))
 have G:=Awr.2 fun j hj=>J j (by omega)
 simp only[Hg,Qb,G,D,b,k,c,f,g,bZl]
end
section
open Go
variable{mn:Bool}{X:Frame→List Frame→Ro→Own→Cy→Prop}{ρ:Ro}{σ:Own}
theorem Ya{l:List UInt8}{vl f:Value}{p:UInt8→Bool}(rl:Val ρ vl l)(hf:Su f p):CallsH (CX mn X) 121 #[vl,f] ρ σ (rP ρ σ (iV (Oi l p))):=by
 refine Bf 19 [4] Tryz.func121 rfl fun Q y a0=>w_q rfl rfl fun N B=>Av (iV 0) (Ary rfl rfl B fun U V G H=>Ay vl ?_)
 have g4:=Val.len rl
 refine l_v (Ci (el:=5) Bru rfl rl) (Ay (iV 0) (l_k H (Ao (Cc (fun mm ee dd ρ' σ'=>∃(i:Nat),(l.length-i)=mm∧[]=dd∧ρ=ρ'∧σ=σ'∧ee 0=vl∧ee 1=f∧ee 7=(iV (l.length:Int))∧ee 8=iV i∧(i≤l.length)∧(∀j,j<i→atP l p j=false)∧True) (m:=_) ⟨0,rfl,rfl,rfl,rfl,rfl,rfl,rfl,rfl,Mq _,fun j h=>absurd h (Aeq _),trivial⟩ ?_))))
 rintro m5 e5 _ _ _ ⟨i,rfl,rfl,rfl,rfl,u,w,x,e,a1,k,_⟩
 refine w_q rfl rfl fun W I=>l_v (Da e x) (Asa I fun Y J=>Bb (t:=decide ((i:Int)<(l.length:Int))) rfl (fun b=>?_) (fun b=>?_))
 ·have L:=lZ3 b
  refine Al (kk J ?_)
  refine Ai fun Z K=>Ao (w_q rfl rfl fun O C=>l_v (Ah (v:=iV i) e) (Av (iV i) (Arx rfl rfl C fun P D=>l_v (Ah (v:=f) w) (l_v (Ah (v:=vl) u) (Ay (iV i) ?_)))))
  obtain⟨c,g⟩:=Ed (xs:=l) (i:=i) (by omega)
  refine Arw (Ch i Bru ty5 rfl rl (q:=(i:Int)) rfl rfl g) fun a2 M=>l_v (Aaf ty5 rfl M) (Arv (Ajp (pr:=p) (a:=c) (v:=.int .u8 (c.toNat:Int)) hf rfl rfl (Uq.2 rfl) ?_))
  refine l_k D (Bb (t:=p c) rfl (fun d=>?_) (fun d=>?_))
  ·refine w_q rfl rfl fun R E=>Ay (iV i) (Av (iV i) (l_k E (Aq (y (rT (iV i) ?_)))))
   have hi:=Fh (n:=l.length) k (by omega) (show atP l p i=true by simp only[atP,g,b,d])
   simp only[Oi,hi]
  refine Al (kk K ?_)
  refine Ag rfl rfl (l_v (Br e rfl (z:=(((i+1):Nat):Int)) wrE) (Ay (iV ((i+1):Nat)) (Ac ?_)))
  refine⟨_,?_,(i+1),rfl,rfl,rfl,rfl,u,w,x,rfl,(by omega),(Eg k (by simp only[atP,g,b,d])),trivial⟩
  omega
 have L:=lZ4 b
 refine Bx (kk G ?_)
 refine w_q rfl rfl fun T F=>Av (iV (-1)) (l_k F (Aq (y (rT (iV (-1)) ?_))))
 have hn:=Ep (n:=l.length) fun j hj=>k j (by omega)
 simp only[Oi,hn]
theorem Ta{l:List UInt8}{vl f:Value}{p:UInt8→Bool}(rl:Val ρ vl l)(hf:Su f p):CallsH (CX mn X) 63 #[vl,f] ρ σ (rP ρ σ (.bool (l.any p))):=by
 refine Bf 9 [4] Tryz.func63 rfl fun Q a g=>w_q rfl rfl fun d b=>Av bF (Arx rfl rfl b fun e c=>Ay vl (Ay f (Arv (Ii (Ya rl hf) Tryz.func121 ?_))))
 refine l_v (Uy rfl rfl) (Av (.bool (decide (Oi l p≥0))) (l_k c (Aq (a (rT (.bool (decide (Oi l p≥0))) ?_)))))
 rw[Yq]
end
section
open Go
/-- A string of bytes. -/
def bs(l:List UInt8):ByteArray:=⟨l.toArray⟩
theorem Abb(l:List UInt8):(bs l).data.toList=l:=rfl
theorem Gp(l:List UInt8):(bs l).size=l.length:=by simp[bs,ByteArray.size]
theorem Blp{l m:List UInt8}(h:bs l=bs m):l=m:=by have:=congrArg (fun s:ByteArray=>s.data.toList) h;exact this
theorem Tj(l:List UInt8):(bs l).toList=l:=by rw[ByteArray.toList_eq];rfl
theorem Blm(l m:List UInt8):bs l++bs m=bs (l++m):=by
 apply ByteArray.ext
 show (bs l++bs m).data=_
 rw[ByteArray.data_append]
 simp[bs]
theorem Blo(l:List UInt8)(i:Nat):(bs l)[i]?=l[i]?:=by
 by_cases h:i<l.length
 ·rw[Um h,getElem?_pos (bs l) i (by rw[Gp];exact h)]
  rfl
 ·rw[Og (by omega),getElem?_neg (bs l) i (by rw[Gp];exact h)]
theorem Acu(l:List UInt8)(i j:Nat):(bs l).extract i j=bs ((l.take j).drop i):=by
 apply ByteArray.ext
 rw[ByteArray.data_extract]
 simp[bs,List.extract_toArray,List.drop_take]
def Bhl:Nat→Nat→List UInt8
 | 0,n=>[UInt8.ofNat (48+n%10)]
 | k+1,n=>if n<10 then [UInt8.ofNat (48+n)] else Bhl k (n/10)++[UInt8.ofNat (48+n%10)]
def Ew(n:Nat):List UInt8:=Bhl 20 n
theorem Aia:∀{k n:Nat},n<10^(k+1)→∀j,Bhl (k+j) n=Bhl k n
 | 0,n,h,j=>by
  cases j with
  | zero=>rfl
  | succ j=>show (if n<10 then _ else _)=_;rw[if_pos (by simpa using h)];show [UInt8.ofNat (48+n)]=[UInt8.ofNat (48+n%10)];rw[Nat.mod_eq_of_lt (by simpa using h)]
 | k+1,n,h,j=>by
  rw[show k+1+j=(k+j)+1 by omega]
  show (if n<10 then _ else _)=(if n<10 then _ else _)
  by_cases h1:n<10
  ·rw[if_pos h1,if_pos h1]
  ·rw[if_neg h1,if_neg h1,Aia (by rw[Nat.pow_succ]at h;omega) j]
theorem Alf{n:Nat}(h:n<10):Ew n=[UInt8.ofNat (48+n)]:=by
 show (if n<10 then _ else _)=_;rw[if_pos h]
theorem Alg{n:Nat}(h:10≤n)(hb:n<10^20):Ew n=Ew (n/10)++[UInt8.ofNat (48+n%10)]:=by
 show (if n<10 then _ else _)=_
 rw[if_neg (by omega)]
 unfold Ew
 rw[Aia (k:=19) (n:=n/10) (by omega) 1]
def Ail:List (List UInt8)→List UInt8
 | []=>[]
 | [w]=>w
 | w::v::ws=>w++32::Ail (v::ws)
/-- What stands between separators. -/
def Ef(c:UInt8)(acc:List UInt8):List UInt8→List (List UInt8)
 | []=>[acc]
 | x::r=>if x=c then acc::Ef c [] r else Ef c (acc++[x]) r
def Cu(s:List UInt8):List (List UInt8):=Ef 32 [] s
def Md(acc:List UInt8):List UInt8→List (List UInt8)
 | []=>if acc=[] then [] else [acc]
 | x::r=>if x=10 then acc::Md [] r else Md (acc++[x]) r
def Fg(s:List UInt8):List (List UInt8):=Md [] s
def Df(c:UInt8):Bool:=decide (48≤c.toNat)&&decide (c.toNat≤57)
def Ri(l:List UInt8):Nat:=l.foldl (fun n c=>10*n+(c.toNat-48)) 0
def Eo(s:List UInt8):Bool:=decide (s.length>1)&&s.head?==some 45
def Cf(s:List UInt8):List UInt8:=if Eo s then s.drop 1 else s
def Er(s:List UInt8):Bool:=decide (1≤(Cf s).length)&&decide ((Cf s).length≤9)&&(Cf s).all Df && !((Cf s).head?==some 48 && !(s==[48]))
def Jt(s:List UInt8):Int:=if Eo s then -(Ri (Cf s):Int) else (Ri (Cf s):Int)
theorem Qz:∀{w acc r:List UInt8},(∀c∈w,c≠32)→Ef 32 acc (w++32::r)=(acc++w)::Ef 32 [] r
 | [],acc,r,_=>by show (if (32:UInt8)=32 then _ else _)=_;rw[if_pos rfl,Lz]
 | x::w,acc,r,h=>by
  show (if x=32 then _ else Ef 32 (acc++[x]) (w++32::r))=_
  rw[if_neg (h x mC),Qz (fun c hc=>h c (lZ0 _ hc))]
  simp
theorem Vv:∀{w acc:List UInt8},(∀c∈w,c≠32)→Ef 32 acc w=[acc++w]
 | [],acc,_=>by show [acc]=_;rw[Lz]
 | x::w,acc,h=>by
  show (if x=32 then _ else _)=_
  rw[if_neg (h x mC),Vv (fun c hc=>h c (lZ0 _ hc))]
  simp
theorem Zd{d:Nat}(h:d<10):(UInt8.ofNat (48+d)).toNat=48+d:=by
 rw[UInt8.toNat_ofNat'];omega
theorem Aoo{l:List UInt8}{c:UInt8}:Ri (l++[c])=10*Ri l+(c.toNat-48):=by
 unfold Ri;rw[List.foldl_append];rfl
structure DigOk(n:Nat)(l:List UInt8):Prop where
 ne:l≠[]
 dig:∀c∈l,Df c=true
 dec:Ri l=n
 len:∀k,n<10^(k+1)→l.length≤k+1
 head:l.head?=some 48→l=[48]
theorem Avf{d:Nat}(h:d<10):Df (UInt8.ofNat (48+d))=true:=by
 unfold Df
 rw[Zd h]
 simp;omega
theorem Bly:∀(n:Nat),n<10^20→DigOk n (Ew n):=by
 intro n
 induction n using Nat.strongRecOn with
 | _ n ih =>
  intro hn
  by_cases h:n<10
  ·rw[Alf h]
   refine⟨by simp,fun c hc=>by rw[Lc.1 hc];exact Avf h,?_,fun k _=>by simp,fun hh=>?_⟩
   ·show 10*0+((UInt8.ofNat (48+n)).toNat-48)=n
    rw[Zd h];omega
   ·simpa using hh
  ·have i:=ih (n/10) (by omega) (by omega)
   rw[Alg (by omega) hn]
   have hm:n%10<10:=by omega
   refine⟨by simp,fun c hc=>?_,?_,fun k hk=>?_,fun hh=>?_⟩
   ·rcases Fb.1 hc with hc|hc
    ·exact i.dig c hc
    ·rw[Lc.1 hc];exact Avf hm
   ·rw[Aoo,i.dec,Zd hm];omega
   ·cases k with
    | zero=>exact absurd hk (by simpa using h)
    | succ k=>have:=i.len k (by rw[Nat.pow_succ]at hk;omega);rw[lZ1];simp only[lZ2,Dy];omega
   ·have d:(Ew (n/10)).head?=some 48:=by
     cases hd:Ew (n/10) with
     | nil=>exact absurd hd i.ne
     | cons a l=>rw[hd]at hh;simpa using hh
    have e:=i.head d
    have b:=i.dec
    rw[e]at b
    exact absurd (show (0:Nat)=n/10 from b) (by omega)
end
section
open Go
section
variable{P:Program}{ρ:Ro}{e:Env}{ty t t':TypeId}{x y:Operand}{v:Value}
theorem Jw{p q:List UInt8}(hx:Af e x = .string (bs p))(hy:Af e y = .string (bs q))(hb:p.length+q.length<4611686018427387904):Yld P ρ e (.binOp .add t x y t') ty (.string (bs (p++q))) :=
 La hx hy rfl (by
  show Op.stringOp .add (bs p) (bs q)=_
  unfold Op.stringOp
  simp only
  rw[if_neg (by rw[Gp,Gp];show ¬_>(9223372036854775807:Int);omega),Blm])
theorem sbH{n h:Nat}{c:BoundsCode}(h2:h≤n):Instr.sliceBound (.int .i64 (h:Int)) n c=Sem.pure h:=by
 show (if 0≤(h:Int)∧(h:Int)≤(n:Nat) then pure (h:Int).toNat else _)=_
 rw[if_pos (by omega)];simp;rfl
theorem Auy{α β:Type}{s:Sem α}{a:α}{f:α→Sem β}(h:s=Sem.pure a):s.bind f=f a:=by subst h;rfl
theorem sb4{n h l:Nat}{x y:Value}(h1:Instr.sliceBound y h .sliceB=Sem.pure l)(h2:Instr.sliceBound x n .sliceAlen=Sem.pure h):Instr.sliceBounds false n n (some y) (some x) none=pure (l,h,n):=by
 unfold Instr.sliceBounds
 simp only[Aps,Aep,if_false]
 show (Instr.sliceBound x n .sliceAlen).bind _=_
 rw[Auy h2]
 show (Instr.sliceBound y h .sliceB).bind _=_
 rw[Auy h1]
theorem sliceB{n:Nat}{lo hi:Option Value}{l h:Nat}(hl:(lo=none∧l=0)∨lo=some (.int .i64 (l:Int)))(hh:(hi=none∧h=n)∨hi=some (.int .i64 (h:Int)))(h1:l≤h)(h2:h≤n):Instr.sliceBounds false n n lo hi none=pure (l,h,n):=by
 rcases hh with⟨rfl,rfl⟩|rfl<;>rcases hl with⟨rfl,rfl⟩|rfl
 ·rfl
 ·have e:Instr.sliceBounds false h h (some (.int .i64 (l:Int))) none none=(Instr.sliceBound (.int .i64 (l:Int)) h .sliceB).bind fun l=>Sem.pure (l,h,h):=rfl
  rw[e,Auy (sbH h1)];rfl
 ·have e:Instr.sliceBounds false n n none (some (.int .i64 (h:Int))) none=(Instr.sliceBound (.int .i64 (h:Int)) n .sliceAlen).bind fun h=>Sem.pure (0,h,n):=rfl
  rw[e,Auy (sbH h2)];rfl
 ·exact sb4 (sbH h1) (sbH h2)
theorem Lp{p:List UInt8}{lo hi:Option Operand}{l h:Nat}(hT:P.underlying t=some .string)(hx:Af e x = .string (bs p))(hl:(lo=none∧l=0)∨∃o,lo=some o∧Af e o = .int .i64 (l:Int))(hh:(hi=none∧h=p.length)∨∃o,hi=some o∧Af e o = .int .i64 (h:Int))(h1:l≤h)(h2:h≤p.length) :
  Yld P ρ e (.slice t x lo hi none) ty (.string (bs ((p.take h).drop l))) :=
 Mt (s:=Instr.sliceAt t (Af e x) (lo.map (Af e)) (hi.map (Af e)) none) (fun _ _ _ _=>rfl) fun ρ' σ _=>by
  rw[hx]
  show wpS P ρ' ((underlying t).bind _) σ _
  rw[Ad]
  refine Az hT ?_
  show wpS P ρ' ((underlying t).bind _) σ _
  rw[Ad]
  refine Az hT ?_
  simp only[]
  show wpS P ρ' ((Instr.sliceBounds false (bs p).size (bs p).size (lo.map (Af e)) (hi.map (Af e)) none).bind _) σ _
  rw[sliceB (l:=l) (h:=h) (by
   rcases hl with⟨rfl,a⟩|⟨o,rfl,ho⟩
   ·exact .inl ⟨rfl,a⟩
   ·exact .inr (by rw[Aes,ho])) (by
   rcases hh with⟨rfl,a⟩|⟨o,rfl,ho⟩
   ·exact .inl ⟨rfl,a.trans (Gp p).symm⟩
   ·exact .inr (by rw[Aes,ho])) h1 (by rw[Gp];exact h2)]
  exact⟨by show Value.string ((bs p).extract l h)=_;rw[Acu],rfl⟩
theorem Cr{p:List UInt8}{k:IntKind}{q:Int}(i:Nat)(c:UInt8)(hT:P.underlying t=some .string)(hx:Af e x = .string (bs p))(hy:Af e y = .int k q)(hq:q=(i:Int))(hc:p[i]?=some c):Yld P ρ e (.index t x y) ty (.int .u8 (c.toNat:Int)) :=
 Ace i c hT hx hy hq (by rw[Blo];exact hc)
theorem Ce{p:List UInt8}(hT:P.underlying t=some .string)(hx:Af e x = .string (bs p)):Yld P ρ e (.call ⟨.builtin .len,#[x],#[t]⟩) ty (.int .i64 (p.length:Int)):=Afz hT hx
theorem Us{p q:List UInt8}(hx:Af e x = .string (bs p))(hy:Af e y = .string (bs q)):Yld P ρ e (.binOp .eql t x y t') ty (.bool (p==q)):=by
 have:=Bqi (P:=P) (ρ:=ρ) (t:=t) (t':=t') (ty:=ty) hx hy
 rw[Tj,Tj]at this;exact this
theorem Qc{p q:List UInt8}(hx:Af e x = .string (bs p))(hy:Af e y = .string (bs q)):Yld P ρ e (.binOp .neq t x y t') ty (.bool (p != q)):=by
 have:=Bqj (P:=P) (ρ:=ρ) (t:=t) (t':=t') (ty:=ty) hx hy
 rw[Tj,Tj]at this;exact this
end
theorem bytesTo{P:Program}{ρ:Ro}{σ:Own}{Q:ByteArray→Own→Prop}:∀(l:List UInt8) (s:ByteArray),Q (s++bs l) σ→wpS P ρ (forIn (l.map fun c:UInt8=>Value.int .u8 (c.toNat:Int)) s fun c s=>match c with
  | .int .u8 n=>pure (ForInStep.yield (s.push (UInt8.ofNat n.toNat)))
  | _=>do
   stuck "bytesToString: byte expected"
   pure (ForInStep.yield s)) σ Q
 | [],s,h=>by
  have e:s++bs []=s:=by apply ByteArray.ext;rw[ByteArray.data_append];simp[bs]
  rw[e]at h
  exact h
 | c::l,s,h=>by
  rw[Hd,Awd]
  refine bytesTo l (s.push (UInt8.ofNat ((c.toNat:Nat):Int).toNat)) ?_
  have e:s.push (UInt8.ofNat ((c.toNat:Nat):Int).toNat)++bs l=s++bs (c::l):=by
   apply ByteArray.ext
   rw[ByteArray.data_append,ByteArray.data_append]
   show (s.data.push _)++l.toArray=s.data++(c::l).toArray
   rw[show UInt8.ofNat ((c.toNat:Nat):Int).toNat=c by rw[Amw];exact UInt8.ofNat_toNat]
   apply Array.ext'
   simp
  rw[e];exact h
theorem Anf{ρ:Ro}:∀{cs:List Value} {l:List UInt8},Rows ρ cs l→cs=l.map fun c:UInt8=>Value.int .u8 (c.toNat:Int)
 | cs,[],h=>h
 | cs,c::l,⟨c1,c2,h1,h2,h3⟩=>by
  rw[h1,Anf h3]
  rw[show c1=[Value.int .u8 (c.toNat:Int)] from h2];rfl
theorem Tf{P:Program}{ρ:Ro}{e:Env}{ty t t':TypeId}{x:Operand}{v:Value}{l:List UInt8}{el:TypeId}(hT:P.underlying t=some (.slice el))(hT':P.underlying t'=some .string)(hE:P.underlying el=some (.int .u8))(hx:Af e x=v)(hv:Val ρ v l):Yld P ρ e (.convert t t' x) ty (.string (bs l)) :=
 Mt (s:=convert t t' (Af e x)) (fun _ _ _ _=>rfl) fun ρ' σ hle=>by
  rw[hx]
  obtain⟨a,len,cap,f,d,j,m,g⟩:=Cs.1 hv
  subst f
  show wpS P ρ' ((underlying t).bind _) σ _
  rw[Ad]
  refine Az hT ?_
  show wpS P ρ' ((underlying t').bind _) σ _
  rw[Ad]
  refine Az hT' ?_
  show wpS P ρ' ((underlying el).bind _) σ _
  rw[Ad]
  refine Az hE ?_
  show wpS P ρ' (Conv.bytesToString (.slice a len cap)) σ _
  have hf:=Uw (P:=P) (σ:=σ) (ρ:=ρ') (Q:=fun cs σ'=>cs=(l.map fun c:UInt8=>Value.int .u8 (c.toNat:Int)).toArray∧σ'=σ) (hv.mono hle) fun cs hr=>⟨by rw[Anf hr],rfl⟩
  cases a with
  | none =>
   have i:l=[]:=by
    cases l with
    | nil=>rfl
    | cons c r=>obtain⟨b,off,h,_⟩:=g 0 c rfl;cases h
   subst i
   exact⟨rfl,rfl⟩
  | some a =>
   unfold Conv.bytesToString
   simp only
   show wpS P ρ' ((loadCells a len).bind _) σ _
   rw[Ad,←d]
   rw[←d]at hf
   rw[show Builtin.firstCells (Dat.k UInt8) l.length (.slice (some a) l.length cap)=loadCells a (l.length*1) from rfl,Air]at hf
   refine Eu ?_ _ _ hf
   rintro cs σ' ⟨rfl,rfl⟩
   rw[Awb]
   show wpS P ρ' (Sem.bind _ _) _ _
   rw[Ad]
   refine bytesTo l ByteArray.empty ?_
   have e:ByteArray.empty++bs l=bs l:=by apply ByteArray.ext;rw[ByteArray.data_append];show #[]++_=_;simp
   exact⟨by rw[e],rfl⟩
theorem Wi{n:Nat}(h:n<10^20):(Ew n).length≤20:=(Bly n h).len 19 h
theorem Nd{p:List UInt8}{i:Nat}(h:i<p.length):∃c,p[i]?=some c:=⟨_,Um h⟩
theorem Rb{ρ:Ro}{l:List UInt8}(h:l.length<2^60):Val ρ (.string (bs l)) (bs l):=Jk.2 ⟨rfl,by rw[Gp];exact h⟩
theorem Vy{ρ:Ro}{z:Int}(h0:0≤z)(h1:z≤255):Val ρ (.int .u8 z) (UInt8.ofNat z.toNat):=Uq.2 (by
 congr 1
 rw[UInt8.toNat_ofNat']
 omega)
end
section
open Go
/-- What the results of a function are,at its end. -/
def Akh(P:Program)(ρ:Ro)(σ:Own)(e:Env):ResultVar→Value→Prop
 | .tmp t,v=>e t=v
 | .cell a t,v=>∀Q:Value→Own→Prop,Q v σ→wpS P ρ (do loadVar t (←asAddr (e a))) σ Q
def Agf(P:Program)(ρ:Ro)(σ:Own)(e:Env):List ResultVar→List Value→Prop
 | [],[]=>True
 | r::rs,v::vs=>Akh P ρ σ e r v∧Agf P ρ σ e rs vs
 | _,_=>False
def Adi:List Value→Value
 | [v]=>v
 | vs=>.tuple vs.toArray
theorem Vf{P:Program}{ρ:Ro}{σ:Own}{fn:Func}{rs:List ResultVar}{vs:List Value}{e:Env}{Q:Value→Own→Prop}(hr:fn.results=rs.toArray)(hl:Agf P ρ σ e rs vs)(h:Q (Adi vs) σ):wpS P ρ (Hp fn e) σ Q:=by
 have key:∀(g:ResultVar→Sem Value) (_:∀r v,Akh P ρ σ e r v→∀Q:Value→Own→Prop,Q v σ→wpS P ρ (g r) σ Q) (rs:List ResultVar) (vs:List Value) (acc:Array Value) (Q:Array Value→Own→Prop),Agf P ρ σ e rs vs→Q (acc++vs.toArray) σ→wpS P ρ (List.foldlM (m:=Sem) (fun (bs:Array Value) (a:ResultVar)=>Functor.map bs.push (g a)) acc rs) σ Q:=by
  intro g hg rs
  induction rs with
  | nil =>
   intro vs acc Q hl h
   cases vs with
   | nil=>show Q acc σ;simpa using h
   | cons v vs=>exact hl.elim
  | cons r rs ih =>
   intro vs acc Q hl h
   cases vs with
   | nil=>exact hl.elim
   | cons v vs =>
    obtain⟨c,d⟩:=hl
    rw[Aim]
    show wpS P ρ (((g r).bind fun x=>pure (acc.push x)).bind _) σ Q
    rw[Ad,Ad]
    refine hg r v c _ ?_
    refine ih vs (acc.push v) Q d ?_
    have b:acc.push v++vs.toArray=acc++(v::vs).toArray:=by simp
    rw[b];exact h
 unfold Hp
 rw[hr,Atq,Bdd]
 show wpS P ρ (Sem.bind _ _) σ Q
 rw[Ad]
 refine key _ ?_ rs vs #[] _ hl ?_
 ·intro r v hv Q hQ
  cases r with
  | tmp t=>cases hv;exact hQ
  | cell a t=>exact hv Q hQ
 ·rw[Vh]
  show Q _ σ
  cases vs with
  | nil=>exact h
  | cons v vs =>
   cases vs with
   | nil=>exact h
   | cons w vs=>simpa[Adi]using h
theorem Rj{P:Program}{ρ:Ro}{σ:Own}{e:Env}{a off i:Nat}{t t':TypeId}{r:Nat}{c:List Value}{fz:Nat×Nat}{v:Value}(hT:∃d,P.underlying t=some d∧Qv d=false)(ha:e a = .pointer (some ⟨r,off,none⟩))(hi:σ[i]?=some (r,.obj (.cells c.toArray t' fz)))(hc:c[off]?=some v):Akh P ρ σ e (.cell a t) v:=by
 intro Q hQ
 rw[ha]
 show wpS P ρ (loadVar t ⟨r,off,none⟩) σ _
 show wpS P ρ ((isAgg t).bind _) σ _
 rw[Ad]
 refine Hi hT ?_
 exact⟨rfl,rfl,_,v,.inr (lZ6 hi),by simpa[Gy]using hc,hQ⟩
theorem Lt{C:Ctx}{f:FuncId}{fn:Func}{c:Code}{n:Nat}{args:List Value}{ρ:Ro}{σ:Own}{R:Value→Ro→Own→Prop}(rs:List ResultVar)(hf:C.P.funcs[f]?=some fn)(hc:fn.body=some c)(hn:fn.ntmps=n)(ha:Nat.ble args.length n=true)(hr:fn.results=rs.toArray)
  (h:∀Q:Hu,(∀e ρ' σ' ρ'' σ'' vs,Agf C.P ρ' σ' e rs vs→Ghost ρ' σ' ρ'' σ''→R (Adi vs) ρ'' σ''→Q .ret e [] ρ' σ')→(∀e ρ' σ' ρ'' σ'' vs,Agf C.P ρ' σ' e rs vs→Ghost ρ' σ' ρ'' σ''→R (Adi vs) ρ'' σ''→Q .normal e [] ρ' σ')→WpC C ⟨f,.normal,none⟩ n c Q (Pn args) [] ρ σ):CallsH C f args.toArray ρ σ R:=by
 have a:CallsH C f args.toArray ρ σ (fun v ρ' σ'=>∃ρ'' σ'',Ghost ρ' σ' ρ'' σ''∧R v ρ'' σ''):=by
  refine Oy hf hc hn (lZ5 ha) (h _ (fun e ρ' σ' ρ'' σ'' vs hl hg hR=>⟨fun id h=>(by cases h),?_⟩) (fun e ρ' σ' ρ'' σ'' vs hl hg hR=>⟨fun id h=>(by cases h),?_⟩)) <;>
  exact Vf (Q:=fun v σ'=>∃ρ'' σ'',Ghost ρ' σ' ρ'' σ''∧R v ρ'' σ'') hr hl ⟨ρ'',σ'',hg,hR⟩
 intro c' cs
 refine(a c' cs).bind ?_
 rintro _ _ ρ' σ' ⟨v,rfl,rfl,ρ'',σ'',hg,hR⟩
 exact .ghost hg (.stop ⟨v,rfl,rfl,hR⟩)
section
variable{C:Ctx}{e:Env}{ds:List Deferred}{ρ:Ro}{σ:Own}{K:Value→List Deferred→Ro→Own→Prop}{rd:Option Nat}{dd:Option Tmp}
variable{ty:TypeId}{pos:String}{af:Array Edge}{g:Option (Nat×Bool)}{x y:Operand}{v:Value}{t t':TypeId}
end
section
variable{C:Ctx}{e:Env}{ds:List Deferred}{ρ:Ro}{σ:Own}{K:Value→List Deferred→Ro→Own→Prop}{rd:Option Nat}{dd:Option Tmp}
variable{ty:TypeId}{pos:String}{af:Array Edge}{g:Option (Nat×Bool)}{x y:Operand}{v:Value}{t t':TypeId}
theorem Gu{r off:Nat}{c:List Value}{fz:Nat×Nat}(hT:∃d,C.P.underlying t=some d∧Qv d=false)(hx:Af e x = .pointer (some ⟨r,off,none⟩))(hi:(r,Res.obj (.cells c.toArray t' fz))∈σ)(hc:c[off]?=some v)(h:K v ds ρ σ) :
  wpS C.P ρ (execOp (Af e) ⟨dd,.load t x,ty,pos,af,g⟩) σ (NextH C K rd ds ρ):=by
 obtain⟨i,hi⟩:=Avv.1 hi
 exact Dt hT hx hi hc h
end
end
section
open Go
theorem Qh{P:Program}{ρ:Ro}{σ:Own}{e:Env}{a i n':Nat}{t t':TypeId}{r:Nat}{cs:List Value}{fz:Nat×Nat}(hT:∃d,P.underlying t=some d∧Qv d=true)(hz:∃i,P.info? t=some i∧i.size=n')(ha:e a = .pointer (some ⟨r,0,none⟩))(hi:σ[i]?=some (r,.obj (.cells cs.toArray t' fz)))(hn:cs.length=n'):Akh P ρ σ e (.cell a t) (.agg cs.toArray):=by
 intro Q hQ
 rw[ha]
 show wpS P ρ (loadVar t ⟨r,0,none⟩) σ _
 show wpS P ρ ((isAgg t).bind _) σ _
 rw[Ad]
 refine Hi hT ?_
 show wpS P ρ ((sizeOf t).bind fun n=>(loadCells ⟨r,0,none⟩ n).bind _) σ _
 rw[Ad]
 refine Dx hz ?_
 rw[Ad,←hn]
 refine Ff rfl (.inr (lZ6 hi)) cs 0 #[] (fun j w hj=>?_) ?_
 ·simpa[Gy]using hj
 ·have b:(#[]:Array Value)++cs.toArray=cs.toArray:=by simp
  rw[b];exact hQ
theorem Afh{c vs:List Value}(h:vs.length=c.length):over c 0 vs=vs:=by
 rw[Qe _ _ _ (by omega)];simp[h]
section
variable{C:Ctx}{e:Env}{ds:List Deferred}{ρ:Ro}{σ:Own}{K:Value→List Deferred→Ro→Own→Prop}{rd:Option Nat}{dd:Option Tmp}
variable{ty:TypeId}{pos:String}{af:Array Edge}{g:Option (Nat×Bool)}{x y:Operand}{v:Value}{t t':TypeId}
theorem Afr{β:Type}{f:β→Value}{xs:List β}{r i n':Nat}{fz:Nat×Nat}(hT:∃d,C.P.underlying t=some d∧Qv d=true)(hz:∃i,C.P.info? t=some i∧i.size=n')(hx:Af e x = .pointer (some ⟨r,0,none⟩))(hi:σ[i]?=some (r,.obj (.cells (xs.map f).toArray t' fz)))
  (hn:xs.length=n') (h:K (.agg (xs.map f).toArray) ds ρ σ):wpS C.P ρ (execOp (Af e) ⟨dd,.load t x,ty,pos,af,g⟩) σ (NextH C K rd ds ρ) :=
 Xo (cs:=xs.map f) (rs:=[]) hT hz hx hi (by simp) (by simpa using hn) h
theorem Acb{β:Type}{f:β→Value}{xs ys:List β}{r i n':Nat}(hz:∃i,C.P.info? t=some i∧i.size=n')(hx:Af e x = .pointer (some ⟨r,0,none⟩))(hy:Af e y = .agg (ys.map f).toArray)(hs:∀b,single (f b)=true)(hi:σ[i]?=some (r,.obj (.cells (xs.map f).toArray t' (0,0))))
  (hn:ys.length=n') (hl:xs.length=n') (h:K undef ds ρ (σ.set i (r,.obj (.cells (ys.map f).toArray t' (0,0))))):wpS C.P ρ (execOp (Af e) ⟨dd,.store t x y,ty,pos,af,g⟩) σ (NextH C K rd ds ρ) :=
 Li (vs:=ys.map f) (c:=xs.map f) (c':=ys.map f) hz hx hy rfl (by simpa using hn) (by intro w hw;obtain⟨b,_,rfl⟩:=Iu.1 hw;exact hs b) hi (by simp[hn,hl]) (Afh (by simp[hn,hl])) h
end
end
section
open Go
section
variable{P:Program}{ρ:Ro}{e:Env}{ty t t':TypeId}{x y:Operand}
theorem Acf{k k':IntKind}{p z:Int}{d:TypeDesc}(hT:P.underlying t=some d)(hT':P.underlying t'=some (.int k'))(hx:Af e x = .int k p)(hz:k'.wrap p=z):Yld P ρ e (.convert t t' x) ty (.int k' z) :=
 Mt (s:=convert t t' (Af e x)) (fun _ _ _ _=>rfl) fun ρ' σ _=>by
  rw[hx]
  show wpS P ρ' ((underlying t).bind _) σ _
  rw[Ad]
  refine Az hT ?_
  show wpS P ρ' ((underlying t').bind _) σ _
  rw[Ad]
  refine Az hT' ?_
  subst hz
  cases d<;>exact⟨rfl,rfl⟩
theorem Anq{p:Int}(h0:0≤p)(h1:p<256):IntKind.u8.wrap p=p:=by
 show p%_=_
 simp only[IntKind.bits]
 omega
end
end
section
open Go
/-- Words,as lists of bytes. -/
def wl(ws:List ByteArray):List (List UInt8):=ws.map fun s=>s.data.toList
theorem Bon{ws:List ByteArray}:(wl ws).length=ws.length:=by simp[wl]
theorem Pz{α:Type}{l:List α}{i:Nat}{x:α}(h:l[i]?=some x):l.take (i+1)=l.take i++[x]:=by
 rw[Apx,h];rfl
theorem Ayc{mn:Bool}{X:Frame→List Frame→Ro→Own→Cy→Prop}{ρ:Ro}{σ:Own}{n:Nat}(hn:n≤999999999999):CallsH (CX mn X) 33 #[iV n] ρ σ (rP ρ σ (.string (bs (Ew n)))):=by
 induction n using Nat.strongRecOn generalizing ρ σ
 rename_i n ih
 refine Bf 26 [2] Bst rfl fun Q c Z=>w_q rfl rfl fun P E=>Av (.string (ByteArray.mk #[])) (Ary rfl rfl E fun T U F G=>Ay (iV n) (l_v (Da rfl rfl) (l_k G (Cg rfl (Om (by omega)) (Al (kk F ?_))))))
 refine Asb rfl rfl fun V W H I=>Ay (iV n) (l_v (Da rfl rfl) (l_k I (Bb (t:=decide ((n:Int)<10)) rfl (fun b=>?_) (fun b=>?_))))
 ·have L:=lZ3 b
  refine w_q rfl rfl fun Y J=>Ay (iV n) (l_v (Ga (((48+n):Nat):Int)) (l_v (Acf (p:=(((48+n):Nat):Int)) (z:=(((48+n):Nat):Int)) Brw Brv rfl (Anq (by omega) (by omega))) (Arv (Bi (α:=UInt8) (xs:=[UInt8.ofNat ((((48+n):Nat):Int)).toNat]) (vs:=[.int .u8 (((48+n):Nat):Int)]) Bru ty5 zr5 rfl (by decide) (Dk (os:=[.tmp 13]) ⟨rfl,trivial⟩) ⟨Vy (by omega) (by omega),trivial⟩ rfl (by decide) fun g D y=>?_))))
  have u:Grow ρ 5 (.slice (some ⟨g,0,none⟩) 1 1) ([UInt8.ofNat ((((48+n):Nat):Int)).toNat]:List UInt8) [(g,oC D.toArray 5)]:=Bs y rfl (by decide)
  refine Ca u fun a2 K O=>l_v (Tf (el:=5) Bru Brs Brv rfl O) (Av (.string (bs ([UInt8.ofNat ((((48+n):Nat):Int)).toNat]:List UInt8))) (l_k J (Aj (Ghost.forget K) (Aq (c ⟨rfl,rfl,eT (.string (bs ([UInt8.ofNat ((((48+n):Nat):Int)).toNat]:List UInt8))) ?_⟩)))))
  rw[Alf (by omega)];rfl
 have L:=lZ4 b
 refine Al (kk H ?_)
 refine Ai fun R d=>Agu (Bu 0 (zT 1 10) rfl (Ah (v:=iV n) rfl) (Bu 1 (zT 2 9) rfl (Bgi (p:=(n:Int)) (q:=10) rfl rfl (by omega) (z:=(((n/10):Nat):Int)) wrR) (Bu 3 [o1,o1,o0,o1,o0,o0,o0,o0,o0,o0,o0] rfl (Ah (v:=iV n) rfl) (Bu 4 [o1,o1,o0,o1,o1,o0,o0,o0,o0,o0,o0] rfl (Aah (p:=(n:Int)) (q:=10) rfl rfl (by omega) (z:=(((n%10):Nat):Int)) rfl) (Bu 5 [o1,o1,o0,o1,o1,o1,o0,o0,o0,o0,o0] rfl (Ga (((48+(n%10)):Nat):Int)) (Bu 6 [o1,o1,o0,o1,o1,o1,o1,o0,o0,o0,o0] rfl (Acf (p:=(((48+(n%10)):Nat):Int)) (z:=(((48+(n%10)):Nat):Int)) Brw Brv rfl (Anq (by omega) (by omega))) (Acq (i:=2) (j:=7) (zT 7 4) [o1,o1,o0,o1,o1,o1,o1,o1,o0,o0,o0] rfl rfl (by kernel_rfl) rfl rfl rfl rfl ?_ ?_)))))))
 ·refine Bm (vs:=[iV ((n/10):Nat)]) (v:=.string (bs (Ew (n/10)))) (ih (n/10) (by omega) (by omega)) Bst rfl rfl ⟨rfl,trivial⟩ ⟨Bsy,?_⟩
  refine Rq 7 (zT 8 3) rfl (Bi (α:=UInt8) (xs:=[UInt8.ofNat ((((48+(n%10)):Nat):Int)).toNat]) (vs:=[.int .u8 (((48+(n%10)):Nat):Int)]) Bru ty5 zr5 rfl (by decide) (Dk (os:=[.tmp 22]) ⟨rfl,trivial⟩) ⟨Vy (by omega) (by omega),trivial⟩ rfl (by decide) fun e B w=>⟨Bsy,?_⟩)
  have k:Grow ρ 5 (.slice (some ⟨e,0,none⟩) 1 1) ([UInt8.ofNat ((((48+(n%10)):Nat):Int)).toNat]:List UInt8) [(e,oC B.toArray 5)]:=Bs w rfl (by decide)
  refine Lr k fun a0 a M=>De 8 (zT 9 2) rfl a rfl (Tf (el:=5) Bru Brs Brv rfl M) (De 9 (zT 10 1) rfl a rfl (Jw (p:=Ew (n/10)) (q:=([UInt8.ofNat ((((48+(n%10)):Nat):Int)).toNat]:List UInt8)) rfl rfl (by have:=Wi (n:=n/10) (by omega);simp only[lZ2,Dy]at *;omega)) (De 10 (zT 11 0) rfl a rfl (Cp (v:=.string (bs ((Ew (n/10))++([UInt8.ofNat ((((48+(n%10)):Nat):Int)).toNat]:List UInt8)))) rfl) (Ec rfl (kk d ?_))))
  refine Aj (Ghost.forget a) (Aq (c ⟨rfl,rfl,eT (.string (bs ((Ew (n/10))++([UInt8.ofNat ((((48+(n%10)):Nat):Int)).toNat]:List UInt8)))) ?_⟩))
  rw[Alg (n:=n) (by omega) (by omega)];rfl
 ·refine Bi (α:=UInt8) (xs:=[UInt8.ofNat ((((48+(n%10)):Nat):Int)).toNat]) (vs:=[.int .u8 (((48+(n%10)):Nat):Int)]) Bru ty5 zr5 rfl (by decide) (Dk (os:=[.tmp 22]) ⟨rfl,trivial⟩) ⟨Vy (by omega) (by omega),trivial⟩ rfl (by decide) fun f C x=>⟨Bsy,?_⟩
  have m:Grow ρ 5 (.slice (some ⟨f,0,none⟩) 1 1) ([UInt8.ofNat ((((48+(n%10)):Nat):Int)).toNat]:List UInt8) [(f,oC C.toArray 5)]:=Bs x rfl (by decide)
  refine Lr m fun a1 h N=>Pm (by kernel_rfl) h Bsy (Bu 8 [o1,o1,o0,o1,o1,o1,o1,o1,o1,o0,o0] rfl (Tf (el:=5) Bru Brs Brv rfl N) (Rq 2 (zT 9 2) rfl (Bm (ih (n/10) (by omega) (by omega)) Bst rfl rfl ⟨rfl,trivial⟩ ⟨Bsy,?_⟩)))
  refine Bq 9 (zT 10 1) rfl (Jw (p:=Ew (n/10)) (q:=([UInt8.ofNat ((((48+(n%10)):Nat):Int)).toNat]:List UInt8)) rfl rfl (by have:=Wi (n:=n/10) (by omega);simp only[lZ2,Dy]at *;omega)) (Bq 10 (zT 11 0) rfl (Cp (v:=.string (bs ((Ew (n/10))++([UInt8.ofNat ((((48+(n%10)):Nat):Int)).toNat]:List UInt8)))) rfl) (Ec rfl (kk d ?_)))
  refine Aj (Ghost.forget h) (Aq (c ⟨rfl,rfl,eT (.string (bs ((Ew (n/10))++([UInt8.ofNat ((((48+(n%10)):Nat):Int)).toNat]:List UInt8)))) ?_⟩))
  rw[Alg (n:=n) (by omega) (by omega)];rfl
end
section
open Go Go.Conc
section
variable{P:Program}{c:Nat}{fr fr':Frame}{cs cs':List Frame}{ρ:Ro}{σ:Own}{vs:List Value}
theorem Fa(h:∀W,stepG P false (Conc.G fr cs) W = .go (Conc.G fr' cs') W #[])(hk:SendI P c vs fr' cs' ρ σ):SendI P c vs fr cs ρ σ :=
 .step (fun a b c=>a=fr'∧b=cs'∧c=σ) (fun W hs=>⟨fr',cs',W,#[],σ,h W,.refl hs,by simp,rfl,rfl,rfl⟩) (by rintro _ _ _ ⟨rfl,rfl,rfl⟩;exact hk)
end
abbrev Aco:=List Value→Hu
section
variable{P:Program}{c:Nat}{b:FB}{n:Nat}{Q:Aco}{vs:List Value}{e:Env}{ds:List Deferred}{ρ ρ':Ro}{σ σ':Own}
end
end
section
open Go Go.Conc
/-- The goroutine's own first frame,when its call has been taken. -/
def Gf(P:Program):Frame:={(default:Frame) with fn:=P.funcs.size,defers:=[],mode:=.panicking [goexitEntry]}
theorem Abf{P:Program}{f:FuncId}{fn:Func}{args:Array Value}(hf:P.funcs[f]?=some fn)(hn:(fn.name == "runtime.NumGoroutine")=false)(hb:fn.body.isNone=false)(W:World) :
  (invoke (.fn (.func f) #[]) args).runT P W #[]=(.ok (.enter f args) W,#[]):=by
 show (callFunc f (args ++ #[])).runT P W #[]=_
 rw[Wx]
 show (program.bind _:Sem Next).runT P W #[]=_
 rw[Sem.runT_bind']
 show Sem.runT P (match P.funcs[f]? with|none=>_|some fn=>_) W #[]=_
 rw[hf]
 simp only[hn,hb]
 rfl
theorem Abt{P:Program}{c:Nat}{ρ:Ro}{vs:List Value}{f:FuncId}{fn:Func}{args:Array Value}(hf:P.funcs[f]?=some fn)(hn:(fn.name == "runtime.NumGoroutine")=false)(hb:fn.body.isNone=false)
  (h:SendI P c vs (Frame.enter P f args .deferred) [Gf P] ρ []):SendI P c vs (Gg P {target:=.fn (.func f) #[],args:=args}) [] ρ []:=by
 refine Fa (fun W=>?_) h
 have hr:=Abf (args:=args) hf hn hb W
 simp[Conc.G,stepG,Gg,unwind,callDeferred,-Sem.runT_eq,hr,GStep.after,seen,Gf]
/-- What has been deferred: the close. -/
def Lj(c:Nat)(tys:Array TypeId)(ty:TypeId)(cn:Array Bool):Deferred:={target:=.builtin .close tys ty cn,args:=#[.chan (some c)]}
theorem Aeo{P:Program}{c:Nat}{tys:Array TypeId}{ty:TypeId}{cn:Array Bool}{W:World}{s r:Nat}{tm:Bool}(h:W.heap[c]?=some (.chan 0 #[] false s r tm)) :
  (invoke (.builtin .close tys ty cn) #[.chan (some c)]).runT P W #[]=(.ok (.value (.tuple #[])) (W.setChan c 0 #[] true s r tm),#[⟨.obj c,false,true⟩,⟨.obj c,true,true⟩]):=by
 have b:(Builtin.close_ tys ty #[.chan (some c)]).runT P W #[]=(.ok (.tuple #[]) (W.setChan c 0 #[] true s r tm),#[⟨.obj c,false,true⟩,⟨.obj c,true,true⟩]):=by
  show Sem.runT P (Sem.getObj c fun o=>Sem.bind (Sem.pure o) _) W #[]=_
  rw[Sem.runT]
  simp only[h]
  show Sem.runT P (Sem.setObj c (.chan 0 #[] true s r tm) (Sem.pure (Value.tuple #[]))) W _=_
  rw[Sem.runT]
  simp only[h]
  rfl
 show ((Builtin.close_ tys ty #[.chan (some c)]).bind fun v=>Sem.pure (Next.value v)).runT P W #[]=_
 rw[Sem.runT_bind',b]
 rfl
/-- It leaves a function that yields nothing,and closes what was deferred. -/
theorem Aky{P:Program}{c:Nat}{b:FB}{tm:Array Value}{todo:List Item}{fn:Func}{tys:Array TypeId}{ty:TypeId}{cn:Array Bool}(hf:P.funcs[b.fn]?=some fn)(hk:b.kind = .deferred)(hr:fn.results = #[]) :
  Acm P c {Fr b tm [Lj c tys ty cn] todo with mode:=.returning} [Gf P]:=by
 refine⟨rfl,2,Conc.G {Fr b tm [] todo with mode:=.returning} [Gf P],?_,fun W s r tm' hc=>?_⟩
 ·refine .inr ⟨rfl,Conc.G (Gf P) [],fun w=>?_,.inr ⟨rfl,{Conc.G (Gf P) [] with status:=.finished},fun w=>?_,(rfl:GoStatus.finished=GoStatus.finished)⟩⟩
  ·have hrs:(results fn tm).runT P w #[]=(.ok (.tuple #[]) w,#[]):=by
    unfold results;rw[hr,Atq];rfl
   simp[Conc.G,stepG,Fr,unwind,hf,-Sem.runT_eq,hrs,doReturn,hk,GStep.after,Gf,goexitEntry,seen]
  ·have hc:Frame.catches P (Gf P)=false:=by
    unfold Frame.catches Gf
    cases P.funcs[P.funcs.size]?<;>rfl
   simp only[Gf,goexitEntry]at hc
   simp[Conc.G,stepG,Gf,unwind,goexitEntry,hc]
 ·have a:=Aeo (P:=P) (tys:=tys) (ty:=ty) (cn:=cn) hc
  simp[Conc.G,stepG,Fr,unwind,Lj,callDeferred,-Sem.runT_eq,a,GStep.after,seen]
section
variable{P:Program}{c:Nat}{b:FB}{n:Nat}{l₀ rest:List Oper}{Q:List Value→Env→List Deferred→Ro→Own→Prop}{vs:List Value}{e:Env}{ds:List Deferred}{ρ:Ro}{σ:Own}
end
section
variable{C:Ctx}{e:Env}{ds:List Deferred}{ρ:Ro}{σ:Own}{K:Value→List Deferred→Ro→Own→Prop}{dd:Option Tmp}
theorem Xn{ty:TypeId}{pos:String}{af:Array Edge}{g:Option (Nat×Bool)}{x:Operand}{tys:Array TypeId}{c t:Nat}(hxt:x = .tmp t)(hx:Af e x = .chan (some c))(h:K undef (Lj c tys ty #[false]::ds) ρ σ) :
  wpS C.P ρ (execOp (Af e) ⟨dd,.defer ⟨.builtin .close,#[x],tys⟩,ty,pos,af,g⟩) σ (NextH C K none ds ρ):=by
 subst hxt
 have a:execOp (Af e) ⟨dd,.defer ⟨.builtin .close,#[.tmp t],tys⟩,ty,pos,af,g⟩=Sem.pure (Next.defer {target:=.builtin .close tys ty #[false],args:=#[Af e (.tmp t)]}):=by
  show ((resolve (Af e) ⟨.builtin .close,#[.tmp t],tys⟩ ty).bind fun d=>Sem.pure (Next.defer d))=_
  simp[resolve,Sem.bind,pure]
 rw[a,hx]
 exact⟨rfl,h⟩
end
end
section
open Go
/-- More may be read,and these blocks are still owned. -/
def leO(ρ₀:Ro)(A:Own):Ro→Own→Prop:=fun ρ' σ'=>Ro.le ρ₀ ρ'∧∀p∈A,p∈σ'
def Axr(P:Program)(ρ₀:Ro)(A:Own)(e:Env)(op:Op)(ty:TypeId)(v:Value):Prop :=
 ∀ρ' σ d pos af g,leO ρ₀ A ρ' σ→wpS P ρ' (execOp (Af e) ⟨d,op,ty,pos,af,g⟩) σ (fun nx σ'=>nx = .value v∧σ'=σ)
theorem Yld.o{P:Program}{ρ₀:Ro}{A:Own}{e:Env}{op:Op}{ty:TypeId}{v:Value}(h:Yld P ρ₀ e op ty v):Axr P ρ₀ A e op ty v:=fun ρ' σ d pos af g hS=>h ρ' σ d pos af g hS.1
theorem Agb{σ:Own}:∀p∈([]:Own),p∈σ:=fun p hp=>by cases hp
theorem Afu{A σ:Own}{x:Nat×Res}(h:∀p∈A,p∈σ):∀p∈x::A,p∈x::σ:=fun p hp=>by
 rcases lZ8.1 hp with rfl|hp
 ·exact Oh ..
 ·exact lZ0 _ (h p hp)
theorem Afx{A σ gr:Own}(h:∀p∈A,p∈σ):∀p∈gr++A,p∈gr++σ:=fun p hp=>by
 rcases Fb.1 hp with hp|hp
 ·exact Lb _ hp
 ·exact Ix _ (h p hp)
theorem Afs{A σ:Own}{x:Nat×Res}(h:∀p∈A,p∈σ):∀p∈A,p∈x::σ:=fun p hp=>lZ0 _ (h p hp)
theorem Aga{A σ gr:Own}(h:∀p∈A,p∈σ):∀p∈A,p∈gr++σ:=fun p hp=>Ix _ (h p hp)
theorem sB{A σ:Own}(h:∀p∈A,p∈σ:=by repeat first|exact Agb|refine Afu ?_|refine Afx ?_|refine Afs ?_|refine Aga ?_):∀p∈A,p∈σ:=h
section
variable{C:Ctx}{b:FB}{n:Nat}{l₀ rest:List Oper}{Q:Env→List Deferred→Ro→Own→Prop}{e:Env}{ds:List Deferred}{ρ ρ₀ ρ₁:Ro}{σ A:Own}{pz:List Nat}{fuel:Nat}
variable{d i:Nat}{op:Op}{ty:TypeId}{pos:String}{af:Array Edge}{g:Option (Nat×Bool)}{v:Value}{li:List Bool}
theorem Abl{V:Hn}{id:Nat}{Q:Hu}(A:Own)(pz:List Nat)(hm:C.P.follows .mixedOrders=true)(hs:Nm n l₀=true)(hk:b.kind = .normal)
  (h:El C b l₀.toArray (fun e ds ρ σ=>Q .normal e ds ρ σ) pz (leO ρ A) l₀.length (List.replicate l₀.length false).toArray e ds ρ σ):WpP C V b n (.region id l₀.toArray true) Q e ds ρ σ :=
 Vk pz (leO ρ A) hm (Ih hs) (by rw[hk];simp) (by simpa using h)
theorem Ajc(hr:Dl l₀ li=[])(h:Q e ds ρ σ):El C b l₀.toArray Q pz (leO ρ₀ A) fuel li.toArray e ds ρ σ:=Aeb (by rw[Hh];exact hr) h fuel
theorem Xb(li':List Bool)(hli:li.set i true=li')(ht:Py l₀ li pz i=true)(hi:l₀[i]?=some ⟨some d,op,ty,pos,af,g⟩)
  (hS:leO ρ₀ A ρ σ) (hw:Bz l₀.toArray ⟨some d,op,ty,pos,af,g⟩ e=true) (hy:Axr C.P ρ₀ A e op ty v) (h:El C b l₀.toArray Q pz (leO ρ₀ A) fuel li'.toArray (upd e d v) ds ρ σ) :
  El C b l₀.toArray Q pz (leO ρ₀ A) (fuel+1) li.toArray e ds ρ σ:=by
 obtain⟨a,c,f,j⟩:=Wg ht
 refine Vm (by rw[Ib];exact hi) a c f j (.inl ⟨hw,fun ρ' σ' hS'=>hy ρ' σ' _ _ _ _ hS'⟩) hS ?_
 rw[Mo hli];exact h
theorem Fj  (i:Nat) (li':List Bool) (hi:l₀[i]?=some ⟨some d,op,ty,pos,af,g⟩) (hS:leO ρ₀ A ρ σ) (hw:Bz l₀.toArray ⟨some d,op,ty,pos,af,g⟩ e=true) (hy:Axr C.P ρ₀ A e op ty v) (h:El C b l₀.toArray Q pz (leO ρ₀ A) fuel li'.toArray (upd e d v) ds ρ σ) (hli:li.set i true=li':=by rfl) (ht:Py l₀ li pz i=true:=by kernel_rfl) :
  El C b l₀.toArray Q pz (leO ρ₀ A) (fuel+1) li.toArray e ds ρ σ:=Xb (i:=i) li' hli ht hi hS hw hy h
theorem Biy{ρ':Ro}{σ':Own}(hg:Ghost ρ σ ρ' σ')(hS:leO ρ₀ A ρ σ→leO ρ₀ A ρ' σ')(h:El C b l₀.toArray Q pz (leO ρ₀ A) (fuel+1) li.toArray e ds ρ' σ'):El C b l₀.toArray Q pz (leO ρ₀ A) (fuel+1) li.toArray e ds ρ σ:=Aar hg hS h
/-- The one that may come up. -/
theorem Bkx(li':List Bool)(hli:li.set i true=li')(hr:Dl l₀ li=[i])(hi:l₀[i]?=some ⟨some d,op,ty,pos,af,g⟩)(hw:Bz l₀.toArray ⟨some d,op,ty,pos,af,g⟩ e=true)
  (h:wpS C.P ρ (execOp (Af e) ⟨some d,op,ty,pos,af,g⟩) σ (NextH C (fun v ds' ρ' σ'=>leO ρ₀ A ρ' σ'∧El C b l₀.toArray Q pz (leO ρ₀ A) fuel li'.toArray (upd e d v) ds' ρ' σ') b.round ds ρ)) :
  El C b l₀.toArray Q pz (leO ρ₀ A) (fuel+1) li.toArray e ds ρ σ:=by
 refine Mz ((Hh _ _).trans hr) (by simp) fun j hj=>?_
 rw[Lc]at hj;subst hj
 unfold OpH
 simp only[Ib,hi,Mo hli]
 rw[if_pos hw]
 exact Eu (fun nx σ' hn=>hn.mono fun v ds ρ σ hh=>⟨fun _=>hh.1,hh.2⟩) _ _ h
theorem Bnj  (i:Nat) (li':List Bool) (hi:l₀[i]?=some ⟨some d,op,ty,pos,af,g⟩) (hw:Bz l₀.toArray ⟨some d,op,ty,pos,af,g⟩ e=true) (h:wpS C.P ρ (execOp (Af e) ⟨some d,op,ty,pos,af,g⟩) σ (NextH C (fun v ds' ρ' σ'=>leO ρ₀ A ρ' σ'∧El C b l₀.toArray Q pz (leO ρ₀ A) fuel li'.toArray (upd e d v) ds' ρ' σ') b.round ds ρ)) (hli:li.set i true=li':=by rfl) (hr:Dl l₀ li=[i]:=by kernel_rfl) :
  El C b l₀.toArray Q pz (leO ρ₀ A) (fuel+1) li.toArray e ds ρ σ:=Bkx (i:=i) li' hli hr hi hw h
/-- The one that may come up,and that waits for those that were taken first. -/
theorem Awp(li':List Bool)(hli:li.set i true=li')(hr:Dl l₀ li=[i])(hl:Pg l₀.toArray pz i=true)(hi:l₀[i]?=some ⟨none,op,ty,pos,af,g⟩)(hw:Bz l₀.toArray ⟨none,op,ty,pos,af,g⟩ e=true)
  (h:wpS C.P ρ (execOp (Af e) ⟨none,op,ty,pos,af,g⟩) σ (NextH C (fun _ ds' ρ' σ'=>El C b l₀.toArray Q pz (leO ρ₀ A) fuel li'.toArray e ds' ρ' σ') b.round ds ρ)) :
  El C b l₀.toArray Q pz (leO ρ₀ A) (fuel+1) li.toArray e ds ρ σ:=by
 refine Mz ((Hh _ _).trans hr) (by simp) fun j hj=>?_
 rw[Lc]at hj;subst hj
 unfold OpH
 simp only[Ib,hi,Mo hli]
 rw[if_pos hw]
 exact Eu (fun nx σ' hn=>hn.mono fun v ds ρ σ hh=>⟨fun h=>(by rw[hl]at h;cases h),hh⟩) _ _ h
theorem Xa  (i:Nat) (li':List Bool) (hi:l₀[i]?=some ⟨none,op,ty,pos,af,g⟩) (hw:Bz l₀.toArray ⟨none,op,ty,pos,af,g⟩ e=true) (h:wpS C.P ρ (execOp (Af e) ⟨none,op,ty,pos,af,g⟩) σ (NextH C (fun _ ds' ρ' σ'=>El C b l₀.toArray Q pz (leO ρ₀ A) fuel li'.toArray e ds' ρ' σ') b.round ds ρ)) (hli:li.set i true=li':=by rfl) (hr:Dl l₀ li=[i]:=by kernel_rfl) (hl:Pg l₀.toArray pz i=true:=by kernel_rfl) :
  El C b l₀.toArray Q pz (leO ρ₀ A) (fuel+1) li.toArray e ds ρ σ:=Awp (i:=i) li' hli hr hl hi hw h
theorem Bep(li':List Bool)(hli:li.set i true=li')(hr:Dl l₀ li=[i])(hi:l₀[i]?=some ⟨some d,op,ty,pos,af,g⟩)(hS:leO ρ₀ A ρ σ)(hw:Bz l₀.toArray ⟨some d,op,ty,pos,af,g⟩ e=true)(hy:Axr C.P ρ₁ A e op ty v)(hS1:leO ρ₁ A ρ σ)
  (h:El C b l₀.toArray Q pz (leO ρ₀ A) fuel li'.toArray (upd e d v) ds ρ σ):El C b l₀.toArray Q pz (leO ρ₀ A) (fuel+1) li.toArray e ds ρ σ :=
 Bkx li' hli hr hi hw (Eu (by rintro nx σ' ⟨rfl,rfl⟩;exact⟨hS,h⟩) _ _ (hy ρ σ _ _ _ _ hS1))
theorem Jx  (i:Nat) (li':List Bool) (hi:l₀[i]?=some ⟨some d,op,ty,pos,af,g⟩) (hS:leO ρ₀ A ρ σ) (hw:Bz l₀.toArray ⟨some d,op,ty,pos,af,g⟩ e=true) (hy:Axr C.P ρ₁ A e op ty v) (hS1:leO ρ₁ A ρ σ) (h:El C b l₀.toArray Q pz (leO ρ₀ A) fuel li'.toArray (upd e d v) ds ρ σ) (hli:li.set i true=li':=by rfl) (hr:Dl l₀ li=[i]:=by kernel_rfl):El C b l₀.toArray Q pz (leO ρ₀ A) (fuel+1) li.toArray e ds ρ σ:=Bep (i:=i) li' hli hr hi hS hw hy hS1 h
end
section
variable{P:Program}{ρ₀:Ro}{A:Own}{e:Env}{ty t t':TypeId}{x:Operand}{v:Value}
theorem Fs{r off:Nat}{c:List Value}{fz:Nat×Nat}(hT:∃d,P.underlying t=some d∧Qv d=false)(hx:Af e x = .pointer (some ⟨r,off,none⟩))(hm:(r,Res.obj (.cells c.toArray t' fz))∈A)(hc:c[off]?=some v):Axr P ρ₀ A e (.load t x) ty v:=fun ρ' σ d pos af g hS=>by
 show wpS P ρ' ((Instr.loadAt t (Af e x)).bind fun v=>Sem.pure (Next.value v)) σ _
 rw[Ad,hx]
 show wpS P ρ' (loadVar t ⟨r,off,none⟩) σ _
 show wpS P ρ' ((isAgg t).bind _) σ _
 rw[Ad]
 refine Hi hT ?_
 exact⟨rfl,rfl,_,v,.inr (hS.2 _ hm),by simpa[Gy]using hc,rfl,rfl⟩
end
section
variable{P:Program}{ρ₀:Ro}{A:Own}{e:Env}{ty t t':TypeId}{x y:Operand}{v w:Value}{xs:List Sale}{i:Nat}{gr:Own}
end
section
variable{C:Ctx}{e:Env}{ds:List Deferred}{ρ:Ro}{σ:Own}{K:Value→List Deferred→Ro→Own→Prop}{rd:Option Nat}{dd:Option Tmp}
variable{ty:TypeId}{pos:String}{af:Array Edge}{g:Option (Nat×Bool)}{x y:Operand}{v w w':Value}{t t':TypeId}{xs:List Sale}{i:Nat}{gr:Own}
end
theorem Bnh{C:Ctx}{b:FB}{l₀:List Oper}{Q:Env→List Deferred→Ro→Own→Prop}{e:Env}{ds:List Deferred}{ρ ρ₀:Ro}{σ σ' A:Own}{pz:List Nat}{fuel:Nat}{li:List Bool}(hp:σ.Perm σ')(h:El C b l₀.toArray Q pz (leO ρ₀ A) (fuel+1) li.toArray e ds ρ σ'):El C b l₀.toArray Q pz (leO ρ₀ A) (fuel+1) li.toArray e ds ρ σ :=
 Biy (Ghost.perm hp) (fun hS=>⟨hS.1,fun p hm=>hp.mem_iff.1 (hS.2 p hm)⟩) h
section
variable{P:Program}{ρ₀ ρ:Ro}{A:Own}{e:Env}{ty t t':TypeId}{x y:Operand}{v:Value}
end
end
section
open Go Go.Conc
def Agk:Nat→List (List Bool)
 | 0=>[[]]
 | k+1=>(Agk k).flatMap fun l=>[true::l,false::l]
theorem Yu:∀(l:List Bool),l∈Agk l.length
 | []=>by simp[Agk]
 | b::l=>by
  rw[lZ2,Agk,Bdl]
  exact⟨l,Yu l,by cases b<;>simp⟩
def Mh(ops:List Oper)(l:List Bool):Bool:=(List.range ops.length).all fun i=>!l.getD i false||(match ops[i]? with|some o=>o.after.all (fun e=>!Region.binds .any e||l.getD e.on false)|none=>true)
/-- The last one comes when all others have come. -/
def Amp(ops' ops:List Oper):Bool:=(Agk ops'.length).all fun l=>!Mh ops' l||(decide (Dl ops (l++[false])=if Dl ops' l=[] then [ops'.length] else Dl ops' l)&&(decide (Dl ops' l≠[])||decide (Dl ops (l++[true])=[]))&&(Dl ops' l).all fun i=>Mh ops' (l.set i true))
def Adh(l:List Oper):Bool:=l.all fun o=>o.guard.isNone
section
variable{C:Ctx}{b:FB}{n:Nat}{l':List Oper}{oL:Oper}{Q Q':Env→List Deferred→Ro→Own→Prop}{pz:List Nat}{S:Ro→Own→Prop}
theorem Aap{V:Hn}(hs:Fu n (l'++[oL]).toArray=true)(hk:b.kind ≠ .early)(hg:Adh l'=true)(hc:Amp l' (l'++[oL])=true)(hQ:∀e ds ρ σ,Q' e ds ρ σ→Oz C V b n (l'++[oL]).toArray [l'.length] Q e ds ρ σ) :
  ∀(fuel t:Nat) (l:List Bool) (e:Env) (ds:List Deferred) (ρ:Ro) (σ:Own),l.length=l'.length→Mh l' l=true→El C b l'.toArray Q' pz S fuel l.toArray e ds ρ σ →
  Oz C V b n (l'++[oL]).toArray (Region.linearise.go .any (l'++[oL]).toArray (fuel+1) t (l++[false]).toArray []) Q e ds ρ σ:=by
 have f:∀l:List Bool,l.length=l'.length→Mh l' l=true→Dl (l'++[oL]) (l++[false])=(if Dl l' l=[] then [l'.length] else Dl l' l)∧(Dl l' l=[]→Dl (l'++[oL]) (l++[true])=[])∧∀i∈Dl l' l,Mh l' (l.set i true)=true:=fun l hl hcl=>by
  have a:=Hs.1 hc l (hl ▸ Yu l)
  rw[hcl]at a
  simp only[Bool.not_true,Awe,Fd,Bool.or_eq_true,decide_eq_true_eq,Hs]at a
  exact⟨a.1.1,fun h=>a.1.2.resolve_left fun h'=>h' h,a.2⟩
 have rd:∀(l:List Oper) (li:List Bool),Region.ready .any l.toArray li.toArray=Dl l li:=Hh
 have fin:∀(fuel t:Nat) (l:List Bool) (e:Env) (ds:List Deferred) (ρ:Ro) (σ:Own),l.length=l'.length→Mh l' l=true→Dl l' l=[]→Q' e ds ρ σ →
   Oz C V b n (l'++[oL]).toArray (Region.linearise.go .any (l'++[oL]).toArray (fuel+1) t (l++[false]).toArray []) Q e ds ρ σ:=by
  intro fuel t l e ds ρ σ hl hcl hr hq
  obtain⟨a,d,_⟩:=f l hl hcl
  rw[if_pos hr]at a
  have g:Region.linearise.go .any (l'++[oL]).toArray (fuel+1) t (l++[false]).toArray []=[l'.length]:=by
   simp only[Region.linearise.go]
   change (match (Region.ready .any (l'++[oL]).toArray (l++[false]).toArray)[t%(Region.ready .any (l'++[oL]).toArray (l++[false]).toArray).length]? with
    | some i=>Region.linearise.go .any (l'++[oL]).toArray fuel (t/(Region.ready .any (l'++[oL]).toArray (l++[false]).toArray).length) ((l++[false]).toArray.setIfInBounds i true) [i]
    | none=>[].reverse)=_
   rw[rd,a]
   simp only[Qq,Nat.mod_one,Aza]
   rw[linearise_go_acc]
   have j:(l++[false]).toArray.setIfInBounds l'.length true=(l++[true]).toArray:=by
    rw[←hl];simp
   rw[j]
   cases fuel with
   | zero=>simp[Region.linearise.go]
   | succ fuel =>
    simp only[Region.linearise.go]
    have m:Region.ready .any (l'++[oL]).toArray (l++[true]).toArray=[]:=(rd _ _).trans (d hr)
    change [l'.length].reverse++(match (Region.ready .any (l'++[oL]).toArray (l++[true]).toArray)[(t/1)%(Region.ready .any (l'++[oL]).toArray (l++[true]).toArray).length]? with
     | some i=>Region.linearise.go .any (l'++[oL]).toArray fuel ((t/1)/(Region.ready .any (l'++[oL]).toArray (l++[true]).toArray).length) ((l++[true]).toArray.setIfInBounds i true) [i]
     | none=>[].reverse)=_
    rw[m];rfl
  rw[g];exact hQ _ _ _ _ hq
 intro fuel
 induction fuel with
 | zero =>
  intro t l e ds ρ σ hl hcl h
  exact fin 0 t l e ds ρ σ hl hcl ((rd _ _).symm.trans h.1) h.2
 | succ fuel ih =>
  intro t l e ds ρ σ hl hcl h
  rcases h with h|⟨ρ₁,σ₁,hgh,_,h₀,h₁⟩
  ·exact fun tm k cs ht=>Rc h
  refine fun tm k cs ht=>.ghost hgh ?_
  revert tm k cs
  change Oz C V b n (l'++[oL]).toArray (Region.linearise.go .any (l'++[oL]).toArray (fuel+1+1) t (l++[false]).toArray []) Q e ds ρ₁ σ₁
  by_cases hr:Dl l' l=[]
  ·exact fin (fuel+1) t l e ds ρ₁ σ₁ hl hcl hr (h₀ ((rd _ _).trans hr))
  obtain⟨a,d,u⟩:=f l hl hcl
  rw[if_neg hr]at a
  rw[Region.linearise.go]
  change Oz C V b n (l'++[oL]).toArray (match (Region.ready .any (l'++[oL]).toArray (l++[false]).toArray)[t%(Region.ready .any (l'++[oL]).toArray (l++[false]).toArray).length]? with
   | some i=>Region.linearise.go .any (l'++[oL]).toArray (fuel+1) (t/(Region.ready .any (l'++[oL]).toArray (l++[false]).toArray).length) ((l++[false]).toArray.setIfInBounds i true) [i]
   | none=>[].reverse) Q e ds ρ₁ σ₁
  rw[rd,a]
  have w:0<(Dl l' l).length:=Avz.2 hr
  have hlt:t%(Dl l' l).length<(Dl l' l).length:=Ais _ w
  rw[Um hlt]
  simp only[]
  have hi:(Dl l' l)[t%(Dl l' l).length]∈Dl l' l:=Awc hlt
  generalize (Dl l' l)[t%(Dl l' l).length]=i at hi
  have hi':i<l'.length:=by
   have:=(Nv.1 (show i∈(List.range l'.length).filter _ from hi)).1
   simpa using this
  rw[linearise_go_acc,List.reverse_singleton,Azc]
  have c:=h₁ i (by rw[rd];exact hi)
  have p:(l++[false]).toArray.setIfInBounds i true=(l.set i true++[false]).toArray:=by
   simp[List.set_append_left _ _ (hl ▸ hi')]
  have q:l.toArray.setIfInBounds i true=(l.set i true).toArray:=by simp
  rw[p]
  refine Uc hs hk ?_
  have ho:l'[i]?=some l'[i]:=Um hi'
  have x:(l'++[oL])[i]?=some l'[i]:=by rw[Ahm hi',ho]
  have hgn:(l'[i]).guard=none:=by
   have:=Hs.1 hg _ (Awc hi')
   simpa using this
  unfold OpH at c ⊢
  simp only[Ib,ho,x]at c ⊢
  have y:Bz l'.toArray l'[i] e=true:=by unfold Bz;rw[hgn]
  have z:Bz (l'++[oL]).toArray l'[i] e=true:=by unfold Bz;rw[hgn]
  rw[if_pos y]at c
  rw[if_pos z]
  refine Eu (fun nx σ' hn=>hn.mono fun v ds ρ σ hh=>?_) _ _ c
  refine ih _ _ _ _ _ _ (by simpa using hl) (u i hi) ?_
  rw[←q];exact hh.2
theorem Ge{V:Hn}{l₀:List Oper}{id:Nat}{Q:Hu}{e:Env}{ds:List Deferred}{ρ:Ro}{σ:Own}(hs:Nm n l₀=true)(hk:b.kind ≠ .early)(h:Db C V b n l₀ l₀ (fun e ds ρ σ=>Q .normal e ds ρ σ) e ds ρ σ):WpP C V b n (.region id l₀.toArray false) Q e ds ρ σ:=by
 refine Wp (Ih hs) hk ?_
 have:=h [] rfl (Ih hs) hk
 simpa[Apn]using this
end
end
section
open Go
theorem Hx{α:Type}[Dat α]{ρ:Ro}{el:TypeId}{v:Value}{xs:List α}{gr σ:Own}(hG:Grow ρ el v xs gr)(h:NoRecv σ):NoRecv (gr++σ):=h.of fun p hp=>(Fb.1 hp).elim (fun hm=>.inr (.inl (hG.1 _ hm))) .inl
end
section
open Go Go.WideShapes Go.ChangeShapes Go.RowKit Go.Conc
/-- What the first goroutine may rely on besides: what it owns is newer than the call's world;what it has frozen is its own again while nobody else is there. -/
def Aiw(P:Program)(W0:World):Frame→List Frame→Ro→Own→Cy→Prop:=fun fr cs ρ σ K =>
 Ade P fr cs ρ σ K ∨
 (∃(gr:Own) (ρ':Ro),NoRecv σ∧(∀p∈gr,W0.heap.size≤p.1∧∃o,p.2=Res.obj o∧ρ p.1=some o)∧(keys gr).Nodup∧Ro.le ρ' ρ∧(∀p∈gr,ρ' p.1=none)∧K fr cs ρ' (gr++σ)) ∨
 ((∀b∈keys σ,W0.heap.size≤b)→K fr cs ρ σ)
section
variable{P:Program}{Pst:Value→World→Prop}{W0:World}{fr:Frame}{cs:List Frame}{ρ:Ro}{σ:Own}
theorem Ayr{gr:Own}{ρ':Ro}(hn:NoRecv σ)(hg:∀p∈gr,W0.heap.size≤p.1∧∃o,p.2=Res.obj o∧ρ p.1=some o)(hnd:(keys gr).Nodup)(hle:Ro.le ρ' ρ)(hno:∀p∈gr,ρ' p.1=none)
  (hK:Fine P W0 Pst fr cs ρ' (gr++σ)):Fine P W0 Pst fr cs ρ σ:=by
 refine⟨fun gs w sl t q h=>hK.A gs w sl t q {h with sat:=?_,nr:=?_,newk:=?_},fun c vs j Am Aw Sh fw cw ρw σw wp gs w sl t q _ h=>absurd h.hc (hn.recv _ _),fun c j Am Aw Sh pc gs w sl t q h=>absurd h.hc (hn.recv _ _),fun c k l B r d f gs w sl t q hne _ h=>(h.calm hne hn).elim⟩
 ·have hk:keys (gr++σ)=keys gr++keys σ:=Ir
  refine⟨fun k ok hk=>h.sat.ro k ok (hle k ok hk),fun p hp=>?_,?_,fun k hk'=>?_⟩
  ·rcases Fb.1 hp with hp|hp
   ·obtain⟨_,o,ho,hr⟩:=hg p hp
    rw[ho];exact h.sat.ro _ _ hr
   ·exact h.sat.own p hp
  ·rw[hk,Aav]
   refine⟨hnd,h.sat.nd,fun a ha b hb e=>?_⟩
   subst e
   obtain⟨p,hp,rfl⟩:=Iu.1 ha
   obtain⟨_,o,_,hr⟩:=hg p hp
   have:=h.sat.dj _ hb
   rw[hr]at this;cases this
  ·rw[hk,Fb]at hk'
   rcases hk' with hk'|hk'
   ·obtain⟨p,hp,rfl⟩:=Iu.1 hk';exact hno p hp
   ·cases hr:ρ' k with
    | none=>rfl
    | some o=>have:=h.sat.dj k hk';rw[hle k o hr]at this;cases this
 ·exact hn.of fun p hp=>(Fb.1 hp).elim (fun hm=>by obtain⟨_,o,ho,_⟩:=hg _ hm;exact .inr (.inl ⟨o,ho⟩)) .inl
 ·intro b hb
  rw[show keys (gr++σ)=keys gr++keys σ from Ir,Fb]at hb
  rcases hb with hb|hb
  ·obtain⟨p,hp,rfl⟩:=Iu.1 hb;exact(hg p hp).1
  ·exact h.newk b hb
theorem Asz(hK:(∀b∈keys σ,W0.heap.size≤b)→Fine P W0 Pst fr cs ρ σ):Fine P W0 Pst fr cs ρ σ :=
 ⟨fun gs w sl t q h=>(hK h.newk).A gs w sl t q h,fun c vs j Am Aw Sh fw cw ρw σw wp gs w sl t q hW h=>(hK h.newk).B c vs j Am Aw Sh fw cw ρw σw wp gs w sl t q hW h,fun c j Am Aw Sh pc gs w sl t q h=>(hK h.newk).C c j Am Aw Sh pc gs w sl t q h,fun c k l B r a d gs w sl t q e f h=>(hK h.newk).N c k l B r a d gs w sl t q e f h⟩
theorem Ahg(h:GoesH ⟨P,true,Aiw P W0⟩ (Agg P W0 Pst) fr cs ρ σ):Fine P W0 Pst fr cs ρ σ:=by
 induction h with
 | stop h=>exact Aex h
 | ghost hg _ ih=>exact ih.ghost hg
 | step K h1 _ ih=>exact Aew h1 ih
 | @ext fr cs ρ σ K h1 _ ih =>
  rcases h1 with h1|⟨gr,ρ',h1,h2,h3,h4,h5,h6⟩|h1
  ·exact Bcg h1 ih
  ·exact Ayr h1 h2 h3 h4 h5 (ih _ _ _ _ h6)
  ·exact Asz fun hk=>ih _ _ _ _ (h1 hk)
theorem Ang{F:Frame}(h:GoesH ⟨P,true,Aiw P W0⟩ (Agg P W0 Pst) F [] ρ [])(hro:∀b o,ρ b=some o→W0.heap[b]?=some o∧o.isChan=false) :
  ∃M last o w' t',runNT P (M+1) (solo (G F []) W0) #[]=(.ended o w',t')∧runN P M (solo (G F []) W0) = .next last∧step P last = .ended o w'∧Go.Conc.Good P Pst last o w' t':=by
 have hw:My P Pst (crowd #[G F []] W0 none) #[]:=(Ahg h).A #[G F []] W0 none #[] (fun _=>0) {
  g0:=⟨G F [],rfl,Is.of _ _⟩
  oth:=fun k y hk hy=>by
   match k with
   | 0=>exact absurd rfl hk
   | k+1=>simp at hy
  sat:=⟨hro,fun p hp=>absurd hp Rl,Aiq,fun b hb=>absurd hb Rl⟩
  nr:=.nil
  newk:=fun b hb=>by cases hb
  below:=Below.refl _ _
  tr:=TA.nil }
 exact hw
theorem Ani{f:FuncId}{r:Nat}{args:List Value}{R:Value→Ro→Own→Prop}(h:Agd ⟨P,true,Aiw P W0⟩ f r args ρ [] R)(hi:P.inits.idxOf? f=none)
  (hR:∀v ρ' σ',R v ρ' σ'→σ'=[]∧∀W,Below W0.heap.size W0 W→Pst v W):GoesH ⟨P,true,Aiw P W0⟩ (Agg P W0 Pst) (Frame.enter P f args.toArray .normal) [] ρ []:=by
 obtain⟨fn,c,hf,hc,hr,ha,hw⟩:=h
 have hf:P.funcs[f]?=some fn:=hf
 have d:Frame.enter P f args.toArray .normal=Fr ⟨f,.normal,none⟩ (args.toArray++Array.replicate (fn.ntmps-args.toArray.size) undef) [] [.code c]:=by
  simp[Frame.enter,hf,hc,Fr]
 rw[d]
 refine((hw (fun ex e ds ρ σ=>(∀id,ex ≠ .exit id)∧ds=[]∧R (e r) ρ σ) (fun e ρ' σ' h=>⟨fun id h=>(by cases h),rfl,h⟩) (fun e ρ' σ' h=>⟨fun id h=>(by cases h),rfl,h⟩)).stops _ [] [] (Tn ha)).bind ?_
 rintro _ _ ρ' σ' ⟨rfl,ex,tm',e',ds',a,g,⟨i,rfl,j⟩,b,rfl⟩
 obtain⟨rfl,hp⟩:=hR _ _ _ j
 have fin:∀a,GoesH ⟨P,true,Aiw P W0⟩ (Agg P W0 Pst) {Fr ⟨f,.normal,none⟩ tm' [] a with mode:=.returning} [] ρ' []:=fun a=>by
  refine .stop ⟨.nil,fun W hs hb _=>⟨e' r,W,#[],?_,fun ev hv=>by simp at hv,hp W hb⟩⟩
  have hrs:(results fn tm').runT P W #[]=(.ok (e' r) W,#[]):=by
   rw[←g.2 r]
   unfold results;rw[hr,Atq];rfl
  simp[Conc.G,stepG,Fr,unwind,hf,-Sem.runT_eq,hrs,doReturn,hi,GStep.after,seen]
 cases ex with
 | normal =>
  cases b
  exact Eh (fr':={Fr ⟨f,.normal,none⟩ tm' [] [] with mode:=.returning}) (cs':=[]) (fun W=>by simp[Conc.G,stepG,stepG.exec,Fr]) (fin _)
 | exit id=>exact absurd rfl (i id)
 | ret =>
  obtain⟨pre,rfl⟩:=b
  exact Eh (fr':={Fr ⟨f,.normal,none⟩ tm' [] (.code .ret::(pre++[])) with mode:=.returning}) (cs':=[]) (fun W=>by simp[Conc.G,stepG,stepG.exec,Fr]) (fin _)
end
theorem GoesH.ctx{P:Program}{mn:Bool}{X Y:Frame→List Frame→Ro→Own→Cy→Prop}(hX:∀fr cs ρ σ K,X fr cs ρ σ K→Y fr cs ρ σ K){S:Cy}{fr:Frame}{cs:List Frame}{ρ:Ro}{σ:Own}(h:GoesH ⟨P,mn,X⟩ S fr cs ρ σ):GoesH ⟨P,mn,Y⟩ S fr cs ρ σ:=by
 induction h with
 | stop h=>exact .stop h
 | ghost hg _ ih=>exact .ghost hg ih
 | step K h1 _ ih=>exact .step K h1 ih
 | ext K h1 _ ih=>exact .ext K (hX _ _ _ _ _ h1) ih
noncomputable abbrev CY(W0:World):Ctx:=CX true (Aiw Tryz.prog W0)
theorem Ee{W0:World}{f:FuncId}{args:Array Value}{ρ:Ro}{σ:Own}{R:Value→Ro→Own→Prop}(h:CallsH (CX true (Ade Tryz.prog)) f args ρ σ R):CallsH (CY W0) f args ρ σ R :=
 fun c cs=>(h c cs).ctx fun _ _ _ _ _ h=>.inl h
section
variable{W0:World}{b:FB}{n:Nat}{e:Env}{ds:List Deferred}{ρ:Ro}{σ:Own}
end
end
section
open Go
theorem Aoa{P:Program}{fr:Frame}{cs:List Frame}{s:Sem Next}{W W':World}{v:Value}{es:Array Event}(hk:fr.kind ≠ .early)(hr:s.runT P W #[]=(.ok (.value v) W',es)) :
  stepG.apply P true fr cs none s W = .go (Conc.G (fr.finish v) cs) W' (seen P fr.fn es):=by
 have hk':(fr.kind==CallKind.early)=false:=by cases h:fr.kind<;>simp_all<;>rfl
 simp[stepG.apply,-Sem.runT_eq,hr,hk',GStep.after,Conc.G]
section
variable{C:Ctx}{b:FB}{n:Nat}{l₀ rest:List Oper}{Q:Env→List Deferred→Ro→Own→Prop}{e:Env}{ds:List Deferred}{ρ:Ro}{σ:Own}
end
section
variable{P:Program}{ρ:Ro}{e:Env}{ty t t':TypeId}{x:Operand}{kt et:TypeId}{v:Value}
end
end
section
open Go
section
variable{P:Program}{ρ:Ro}{e:Env}{ty t t':TypeId}{x y:Operand}{v:Value}
theorem Asm{el:TypeId}{a:Option Addr}(hT:P.underlying t=some (.pointer el))(hx:Af e x = .pointer a)(hy:Af e y = .pointer none):Yld P ρ e (.binOp .eql t x y t') ty (.bool a.isNone) :=
 Mt (s:=(do eqGuard .eql t x y (Af e x) (Af e y);binOp .eql t (Af e x) (Af e y))) (fun _ _ _ _=>rfl) fun ρ' σ _=>by
  rw[hx,hy,show eqGuard .eql t x y (.pointer a) (.pointer none)=pure () from rfl]
  show wpS P ρ' ((Op.equal t (.pointer a) (.pointer none)).bind _) σ _
  rw[Ad]
  show wpS P ρ' ((underlying t).bind _) σ _
  rw[Ad]
  refine Az hT ?_
  cases a<;>exact⟨rfl,rfl⟩
theorem Bkj{el:TypeId}{a:Addr}{n:Nat}(hT:P.underlying t=some (.pointer el))(hz:∃i,P.info? el=some i∧i.size=n)(hn:n≠0)(hx:Af e x = .pointer (some a))(hy:Af e y = .pointer (some a)):Yld P ρ e (.binOp .neq t x y t') ty (.bool false) :=
 Mt (s:=(do eqGuard .neq t x y (Af e x) (Af e y);binOp .neq t (Af e x) (Af e y))) (fun _ _ _ _=>rfl) fun ρ' σ _=>by
  rw[hx,hy,show eqGuard .neq t x y (.pointer (some a)) (.pointer (some a))=pure () from rfl]
  show wpS P ρ' ((Op.equal t (.pointer (some a)) (.pointer (some a))).bind _) σ _
  rw[Ad]
  show wpS P ρ' ((underlying t).bind _) σ _
  rw[Ad]
  refine Az hT ?_
  show wpS P ρ' ((sizeOf el).bind _) σ _
  rw[Ad]
  refine Dx hz ?_
  simp only[ne_eq,hn,not_false_eq_true,if_true]
  show wpS P ρ' (sameAddr a a) σ _
  unfold sameAddr
  simp only[beq_self_eq_true,if_true]
  exact⟨rfl,rfl⟩
end
section
variable{C:Ctx}{e:Env}{ds:List Deferred}{ρ:Ro}{σ:Own}{K:Value→List Deferred→Ro→Own→Prop}{rd:Option Nat}{dd:Option Tmp}
variable{ty:TypeId}{pos:String}{af:Array Edge}{g:Option (Nat×Bool)}{x:Operand}{t t' t2:TypeId}
theorem Ago{P:Program}{a:Addr}{c:Array Value}{t1:TypeId}{fz:Nat×Nat}(h:Has ρ σ a.block (.cells c t1 fz)){Q:Addr→Own→Prop}(hq:Q a σ):wpS P ρ (Conv.seenAt a) σ Q:=by
 unfold Conv.seenAt viewAt
 show wpS P ρ (((shape a.block).bind _).bind _) σ Q
 rw[Ad,Ad]
 refine⟨_,h,?_⟩
 exact hq
/-- A pointer to a variable that is owned,without its type. -/
theorem Bao{r n i:Nat}{c:List Value}{fz:Nat×Nat}{el:TypeId}(hT:C.P.underlying t=some (.pointer el))(hT':C.P.underlying t'=some .unsafePointer)(hz:∃i,C.P.info? el=some i∧i.size=n)(hn:n≠0)(hx:Af e x = .pointer (some ⟨r,0,none⟩))(hi:σ[i]?=some (r,.obj (.cells c.toArray t2 fz)))(hc:0<c.length)
  (h:K (.pointer (some ⟨r,0,none⟩)) ds ρ σ):wpS C.P ρ (execOp (Af e) ⟨dd,.convert t t' x,ty,pos,af,g⟩) σ (NextH C K rd ds ρ):=by
 have hh:Has ρ σ r (.cells c.toArray t2 fz):=.inr (lZ6 hi)
 show wpS C.P ρ ((convert t t' (Af e x)).bind _) σ _
 refine Gd ?_
 rw[hx]
 show wpS C.P ρ ((underlying t).bind _) σ _
 rw[Ad]
 refine Az hT ?_
 show wpS C.P ρ ((underlying t').bind _) σ _
 rw[Ad]
 refine Az hT' ?_
 show wpS C.P ρ (Conv.unsafePointer t t' (.pointer (some ⟨r,0,none⟩))) σ _
 unfold Conv.unsafePointer
 show wpS C.P ρ ((underlying t).bind _) σ _
 rw[Ad]
 refine Az hT ?_
 show wpS C.P ρ ((underlying t').bind _) σ _
 rw[Ad]
 refine Az hT' ?_
 simp only
 show wpS C.P ρ ((Conv.seenAt ⟨r,0,none⟩).bind _) σ _
 rw[Ad]
 refine Ago hh ?_
 show wpS C.P ρ ((cellsIn r).bind _) σ _
 rw[Ad]
 unfold cellsIn
 show wpS C.P ρ ((shape r).bind _) σ _
 rw[Ad]
 refine⟨_,hh,?_⟩
 simp only[Xk]
 show wpS C.P ρ ((sizeOf el).bind _) σ _
 rw[Ad]
 refine Dx hz ?_
 have a:¬(0:Nat)≥c.toArray.size:=by rw[show c.toArray.size=c.length by simp];omega
 simp only[a,hn,decide_false,Bool.false_and,Bool.or_self,if_false,Aep,or_self]
 exact h
/-- And back again. -/
theorem Bke{r n i:Nat}{c:List Value}{fz:Nat×Nat}{el:TypeId}(hT:C.P.underlying t=some .unsafePointer)(hT':C.P.underlying t'=some (.pointer el))(hz:∃i,C.P.info? el=some i∧i.size=n)(hn:n≠0)(hx:Af e x = .pointer (some ⟨r,0,none⟩))(hi:σ[i]?=some (r,.obj (.cells c.toArray t2 fz)))(hl:liesAt C.P C.P.depth t2 (c.length/C.P.cellsOf t2) 0 el 1=true)
  (h:K (.pointer (some ⟨r,0,none⟩)) ds ρ σ):wpS C.P ρ (execOp (Af e) ⟨dd,.convert t t' x,ty,pos,af,g⟩) σ (NextH C K rd ds ρ):=by
 have hh:Has ρ σ r (.cells c.toArray t2 fz):=.inr (lZ6 hi)
 show wpS C.P ρ ((convert t t' (Af e x)).bind _) σ _
 refine Gd ?_
 rw[hx]
 show wpS C.P ρ ((underlying t).bind _) σ _
 rw[Ad]
 refine Az hT ?_
 show wpS C.P ρ ((underlying t').bind _) σ _
 rw[Ad]
 refine Az hT' ?_
 show wpS C.P ρ (Conv.unsafePointer t t' (.pointer (some ⟨r,0,none⟩))) σ _
 unfold Conv.unsafePointer
 show wpS C.P ρ ((underlying t).bind _) σ _
 rw[Ad]
 refine Az hT ?_
 show wpS C.P ρ ((underlying t').bind _) σ _
 rw[Ad]
 refine Az hT' ?_
 simp only
 show wpS C.P ρ ((Conv.seenAt ⟨r,0,none⟩).bind _) σ _
 rw[Ad]
 refine Ago hh ?_
 show wpS C.P ρ ((sizeOf el).bind _) σ _
 rw[Ad]
 refine Dx hz ?_
 show wpS C.P ρ ((variablesAt ⟨r,0,none⟩ el 1).bind _) σ _
 rw[Ad]
 unfold variablesAt
 show wpS C.P ρ (program.bind _) σ _
 rw[Ad]
 show wpS C.P ρ ((shape r).bind _) σ _
 rw[Ad]
 refine⟨_,hh,?_⟩
 simp only[Xk]
 rw[show c.toArray.size=c.length by simp]
 show wpS C.P ρ (if (decide (n=0)||liesAt C.P C.P.depth t2 (c.length/C.P.cellsOf t2) 0 el 1)=true then _ else _) σ _
 rw[hl]
 simp only[Bool.or_true,if_true]
 exact h
end
section
variable{C:Ctx}{b:FB}{n:Nat}{l₀ rest:List Oper}{Q:Env→List Deferred→Ro→Own→Prop}{e:Env}{ds:List Deferred}{ρ:Ro}{σ:Own}
/-- A call of a function without a body,one step of a region of one order. -/
theorem Bpn{V:Hn}{d:Nat}{f:FuncId}{fn:Func}{xs:Array Operand}{vs:Array Value}{G:Array Value→Sem Value}{R:Value→Own→Prop}{tys:Array TypeId}{ty:TypeId}{pos:String}{af:Array Edge}{g:Option (Nat×Bool)}
  (hw:Bz l₀.toArray ⟨some d,.call ⟨.value (.func f),xs,tys⟩,ty,pos,af,g⟩ e=true) (hf:C.P.funcs[f]?=some fn) (hn:(fn.name == "runtime.NumGoroutine")=false) (hb:fn.body.isNone=true)
  (hx0:Extern.findNext fn=none) (he:Extern.find fn=some G) (hx:xs.map (Af e)=vs) (hG:wpS C.P ρ (G vs) σ R)
  (h:∀v σ',R v σ'→Db C V b n l₀ rest Q (upd e d v) ds ρ σ') :
  Db C V b n l₀ (⟨some d,.call ⟨.value (.func f),xs,tys⟩,ty,pos,af,g⟩::rest) Q e ds ρ σ:=by
 intro pre c hs hk tm k cs ht
 have ho:l₀.toArray[pre.length]?=some ⟨some d,.call ⟨.value (.func f),xs,tys⟩,ty,pos,af,g⟩:=by subst c;simp
 rw[lZ2,Yy]
 have hev:=ht.eval b ds (.inRegion l₀.toArray (pre.length::List.range' (pre.length+1) rest.length)::k)
 have w:∀W:World,(execOp (Af e) ⟨some d,.call ⟨.value (.func f),xs,tys⟩,ty,pos,af,g⟩).runT C.P W #[]=((G vs).bind fun v=>Sem.pure (Next.value v)).runT C.P W #[⟨.mark (.extern f),false,true⟩]:=by
  intro W
  have j:execOp (Af e) ⟨some d,.call ⟨.value (.func f),xs,tys⟩,ty,pos,af,g⟩=callFunc f vs:=by
   show callFunc f ((#[]++xs.map (Af e)) ++ #[])=_
   rw[Wx,Vh,hx]
  rw[j]
  unfold callFunc
  show ((program).bind _).runT C.P W #[]=_
  rw[Sem.runT_bind']
  simp only[program,Sem.runT,hf,hn,hb]
  simp only[hx0,he]
  rfl
 refine .step (fun fr' cs' σ'=>∃v,R v σ'∧fr'=(Fr b tm ds (.inRegion l₀.toArray (pre.length::List.range' (pre.length+1) rest.length)::k)).finish v∧cs'=cs) (fun W x=>?_) ?_
 ·have hwp:wpS C.P ρ ((G vs).bind fun v=>Sem.pure (Next.value v)) σ (fun nx σ'=>∃v,R v σ'∧nx = .value v):=by
   rw[Ad]
   exact Eu (fun v σ' hv=>⟨v,hv,rfl⟩) _ _ hG
  obtain⟨nx,σ',W',es,a,m,p,q⟩:=Rr _ σ _ W #[⟨.mark (.extern f),false,true⟩] hwp x
  obtain⟨v,hv,rfl⟩:=m
  rw[←w W]at a
  have t:=Aoa (fr:=Fr b tm ds (.inRegion l₀.toArray (pre.length::List.range' (pre.length+1) rest.length)::k)) (cs:=cs) (by exact hk) a
  have u:∀ev∈seen C.P b.fn es,Wb ρ σ' ev:=fun ev he'=>((q ev (Lh he').1).resolve_left fun hc=>Up he' f (by simp at hc;rw[hc])).resolve_right fun⟨f,hf⟩=>(Lh he').2 f hf
  refine⟨_,cs,W',seen C.P b.fn es,_,?_,p,u,v,hv,rfl,rfl⟩
  have hst:=Np (C:=C) (b:=b) (ds:=ds) (tm:=tm) (k:=k) (cs:=cs) (rest:=List.range' (pre.length+1) rest.length) ho (by rw[Ij hs ht];exact hw) (fun c' h'=>by cases h') W
  refine hst.trans ?_
  rw[hev]
  exact t
 ·rintro _ _ σ' ⟨v,hv,rfl,rfl⟩
  rw[Ju ho]
  have i:=h v σ' hv (pre++[⟨some d,.call ⟨.value (.func f),xs,tys⟩,ty,pos,af,g⟩]) (by rw[c];simp) hs hk
  rw[lZ1,Qq]at i
  exact i _ k _ (Jj hs ht ho _)
/-- Its value hangs on the arguments alone. -/
theorem Atv{V:Hn}{d:Nat}{f:FuncId}{fn:Func}{xs:Array Operand}{vs:Array Value}{G:Array Value→Sem Value}{v:Value}{tys:Array TypeId}{ty:TypeId}{pos:String}{af:Array Edge}{g:Option (Nat×Bool)}
  (hw:Bz l₀.toArray ⟨some d,.call ⟨.value (.func f),xs,tys⟩,ty,pos,af,g⟩ e=true) (hf:C.P.funcs[f]?=some fn) (hn:(fn.name == "runtime.NumGoroutine")=false) (hb:fn.body.isNone=true)
  (hx0:Extern.findNext fn=none) (he:Extern.find fn=some G) (hx:xs.map (Af e)=vs) (hG:wpS C.P ρ (G vs) σ (fun w σ'=>w=v∧σ'=σ))
  (h:Db C V b n l₀ rest Q (upd e d v) ds ρ σ) :
  Db C V b n l₀ (⟨some d,.call ⟨.value (.func f),xs,tys⟩,ty,pos,af,g⟩::rest) Q e ds ρ σ :=
 Bpn hw hf hn hb hx0 he hx hG fun _ _ ⟨a,c⟩=>by subst a c;exact h
end
theorem Bpq{e:Env}{x:Operand}{v:Value}(h:Af e x=v):(#[x]:Array Operand).map (Af e) = #[v]:=by simp[h]
theorem Bkt{e:Env}{x y:Operand}{v w:Value}(h:Af e x=v)(h':Af e y=w):(#[x,y]:Array Operand).map (Af e) = #[v,w]:=by simp[h,h']
theorem Bcb{P:Program}{ρ:Ro}{σ:Own}{v:Value}:wpS P ρ (Extern.AbiNoEscape.same #[v]) σ (fun w σ'=>w=v∧σ'=σ):=⟨rfl,rfl⟩
end
section
open Go
section
variable{C:Ctx}{e:Env}{ds:List Deferred}{ρ:Ro}{σ:Own}{K:Value→List Deferred→Ro→Own→Prop}{rd:Option Nat}{dd:Option Tmp}
variable{ty:TypeId}{pos:String}{af:Array Edge}{g:Option (Nat×Bool)}{x y:Operand}{v:Value}{t t':TypeId}
theorem Aag{xs ys:List UInt8}{gr:Own}{el:TypeId}{z:Value}{ti:TypeInfo}(hT:C.P.underlying t=some (.slice el))(hT':C.P.underlying t'=some .string)(hi:C.P.info? el=some ti)(hik:ti.size=Dat.k UInt8)(hib:ti.bytes≤1000)(hz:ti.zero=some z)(hzk:z.cells.size=Dat.k UInt8)
  (hx:Af e x=v) (hy:Af e y = .string (bs ys)) (hv:Grow ρ el v xs gr) (hlen:xs.length+ys.length<2^30)
  (h:∀v' gr',Grow ρ el v' (xs++ys) gr'→K v' ds ρ (gr'++σ)):wpS C.P ρ (execOp (Af e) ⟨dd,.call ⟨.builtin .append,#[x,y],#[t,t']⟩,ty,pos,af,g⟩) (gr++σ) (NextH C K rd ds ρ):=by
 have J:(#[x,y]:Array Operand).map (Af e) = #[v,.string (bs ys)]:=by simp[hx,hy]
 show wpS C.P ρ (builtin .append #[t,t'] ty ((#[x,y]:Array Operand).map fun | .const _=>true|_=>false) ((#[x,y]:Array Operand).map (Af e))) _ _
 rw[J]
 show wpS C.P ρ ((Builtin.append_ #[t,t'] ty #[v,.string (bs ys)]).bind fun v=>Sem.pure (Next.value v)) _ _
 refine Gd ?_
 obtain⟨va,vl,vc,hvs⟩:∃va vl vc,v = .slice va vl vc∧vl=xs.length:=by
  rcases hv.2.2 with⟨d,f⟩|⟨r,cap,cs,rs,gb,d,_⟩
  ·exact⟨none,0,0,d,by rw[f];rfl⟩
  ·exact⟨_,_,_,d,rfl⟩
 obtain⟨hvs,hvl⟩:=hvs
 subst hvl
 have hGo:∀(Q:Value→Own→Prop),(∀v' gr',Grow ρ el v' (xs++ys) gr'→Q v' (gr'++σ))→wpS C.P ρ (Builtin.append_ #[t,t'] ty #[v,.string (bs ys)]) (gr++σ) Q:=by
  intro Q hQ
  have B:∀{Q:Array Value→Own→Prop} {σ':Own},(∀cs,Rows ρ cs ys→Q cs.toArray σ')→wpS C.P ρ (Builtin.firstCells (Dat.k UInt8) ys.length (.string (bs ys))) σ' Q:=fun {Q σ'} hq=>by
   show Q (((bs ys).extract 0 ys.length).data.map fun (b:UInt8)=>Value.int .u8 (b.toNat:Int)) σ'
   rw[Acu,Nn,Vi]
   have e:((bs ys).data.map fun (b:UInt8)=>Value.int .u8 (b.toNat:Int))=(ys.map fun (c:UInt8)=>Value.int .u8 (c.toNat:Int)).toArray:=by apply Array.ext';simp[bs]
   rw[e];exact hq _ (Ug _)
  rw[hvs]
  unfold Builtin.append_
  show wpS C.P ρ ((underlying t).bind _) _ _
  rw[Ad]
  refine Az hT ?_
  show wpS C.P ρ ((sizeOf el).bind _) _ _
  rw[Ad]
  refine Dx ⟨ti,hi,hik⟩ ?_
  show wpS C.P ρ ((underlying t').bind _) _ _
  rw[Ad]
  refine Az hT' ?_
  have N:∀{Q:Array Value→Own→Prop},(∀cs,Rows ρ cs xs→Q cs.toArray (gr++σ))→wpS C.P ρ (Builtin.firstCells (Dat.k UInt8) xs.length (.slice va xs.length vc)) (gr++σ) Q:=fun {Q} hq=>by
   rcases hv.2.2 with⟨d,f⟩|⟨r,cap,cs,rs,gb,d,f,m,q,I⟩
   ·subst f
    rw[hvs]at d
    simp only[Dy,Value.slice.injEq]at d
    obtain⟨rfl,-,rfl⟩:=d
    exact hq [] rfl
   ·rw[hvs]at d;cases d
    show wpS C.P ρ (loadCells ⟨r,0,none⟩ (xs.length*Dat.k UInt8)) _ _
    rw[←m.len]
    refine Ff (a:=⟨r,0,none⟩) (o:=.cells (cs++rs).toArray el (0,0)) rfl (.inr (by rw[f];simp)) cs 0 #[] (fun j u hj=>?_) ?_
    ·simp only[Gy,Po,Ib]
     rw[Ahm (Ig.1 hj).1];exact hj
    ·have D:(#[]:Array Value)++cs.toArray=cs.toArray:=by simp
     rw[D];exact hq cs m
  by_cases hn:xs.length+ys.length≤vc
  ·show wpS C.P ρ (if xs.length+ys.length≤vc then (Builtin.firstCells (Dat.k UInt8) ys.length (.string (bs ys))).bind _ else _) _ _
   rw[if_pos hn,Ad]
   refine B fun cs' n=>?_
   rcases hv.2.2 with⟨d,f⟩|⟨r,cap,cs,rs,gb,d,f,m,q,I⟩
   ·subst f
    rw[hvs]at d
    simp only[Dy,Value.slice.injEq]at d
    obtain⟨rfl,-,rfl⟩:=d
    have R:ys=[]:=Aem (by simpa using hn)
    subst R
    exact hQ _ gr ⟨hv.1,by simp,.inl ⟨rfl,rfl⟩⟩
   ·rw[hvs]at d;cases d
    show wpS C.P ρ ((storeCells ((⟨r,0,none⟩:Addr).add (xs.length*Dat.k UInt8)) cs'.toArray.toList).bind _) _ _
    rw[Ad,Ld,App,Po]
    have hl:xs.length*Dat.k UInt8+cs'.length≤(cs++rs).length:=by
     rw[q,n.len,←Pp];exact Apo _ hn
    refine Ns (r:=r) (i:=0) cs' ⟨r,xs.length*Dat.k UInt8,none⟩ 0 (cs++rs) (gr++σ) rfl rfl n.sgl (by rw[f];rfl) (by simpa using hl) ?_
    have E:over (cs++rs) (xs.length*Dat.k UInt8+0) cs'=(cs++cs')++(cs++rs).drop (xs.length*Dat.k UInt8+cs'.length):=by
     rw[Vn,Qe _ _ _ hl,←m.len,Aqi,lZ9]
    have F:(gr++σ).set 0 (r,Res.obj (.cells (over (cs++rs) (xs.length*Dat.k UInt8+0) cs').toArray el (0,0)))=((r,Res.obj (.cells ((cs++cs')++(cs++rs).drop (xs.length*Dat.k UInt8+cs'.length)).toArray el (0,0)))::gb)++σ:=by
     rw[f,E];rfl
    simp only[]
    rw[F]
    refine hQ _ _ ⟨fun p hp=>?_,by rw[lZ1];omega,.inr ⟨r,vc,cs++cs',_,gb,by rw[lZ1,Gp],rfl,m.append n,?_,by rw[lZ1];exact hn⟩⟩
    ·rcases lZ8.1 hp with rfl|hp
     ·exact⟨_,rfl⟩
     ·exact hv.1 p (by rw[f];exact lZ0 _ hp)
    ·rw[lZ1,lZ1,En,←q,m.len]
     omega
  ·show wpS C.P ρ (if xs.length+ys.length≤vc then _ else (typeInfo el).bind _) _ _
   rw[if_neg hn,Ad]
   refine Gj hi ?_
   have L:¬(((xs.length+ys.length:Nat):Int)>IntKind.i64.max∧((false=true)∨ti.bytes=0)):=by
    intro⟨d,_⟩
    have:IntKind.i64.max=9223372036854775807:=by simp[IntKind.max,IntKind.signed,IntKind.bits]
    omega
   show wpS C.P ρ (if ((xs.length+ys.length:Nat):Int)>IntKind.i64.max∧((false=true)∨ti.bytes=0) then _ else (typeInfo el).bind _) _ _
   rw[if_neg L,Ad]
   refine Gj hi ?_
   have M:¬(Builtin.nextslicecap (xs.length+ys.length) vc*ti.bytes>2^48):=by
    have d:=Alk (need:=xs.length+ys.length) (cap:=vc) (by omega)
    have f:Builtin.nextslicecap (xs.length+ys.length) vc*ti.bytes≤(2*(xs.length+ys.length)+1000)*1000:=Aey d hib
    omega
   show wpS C.P ρ (if Builtin.nextslicecap (xs.length+ys.length) vc*ti.bytes>2^48 then _ else (choose (.appendCap (xs.length+ys.length) vc el)).bind _) _ _
   rw[if_neg M,Ad]
   show (if (Question.appendCap (xs.length+ys.length) vc el).forced then _ else ∀tt,_)
   rw[if_neg (by simp[Question.forced])]
   intro tt
   have w:xs.length+ys.length≤(Question.appendCap (xs.length+ys.length) vc el).cut tt:=by simp[Question.cut]
   generalize (Question.appendCap (xs.length+ys.length) vc el).cut tt=nc at w
   show wpS C.P ρ ((typeInfo el).bind _) _ _
   rw[Ad]
   refine Gj hi ?_
   show wpS C.P ρ ((askRoom (nc*ti.bytes)).bind _) _ _
   rw[Ad]
   have O:∀{Q:Unit→Own→Prop} {σ':Own},Q () σ'→wpS C.P ρ (askRoom (nc*ti.bytes)) σ' Q:=fun hq=>by
    unfold askRoom
    split
    ·exact⟨rfl,hq⟩
    ·exact hq
   refine O ?_
   show wpS C.P ρ ((Builtin.firstCells (Dat.k UInt8) xs.length (.slice va xs.length vc)).bind _) _ _
   rw[Ad]
   refine N fun cs hcs=>?_
   show wpS C.P ρ ((Builtin.firstCells (Dat.k UInt8) ys.length (.string (bs ys))).bind _) _ _
   rw[Ad]
   refine B fun cs' n=>?_
   show wpS C.P ρ ((zeroValue el).bind _) _ _
   rw[Ad]
   refine Jz ⟨ti,hi,hz⟩ ?_
   show wpS C.P ρ ((newRow el (cs.toArray++cs'.toArray++Builtin.zeroCells z.cells (nc-(xs.length+ys.length)))).bind _) _ _
   rw[Ad]
   refine Ik fun r=>?_
   have G:(cs.toArray++cs'.toArray++Builtin.zeroCells z.cells (nc-(xs.length+ys.length)))=((cs++cs')++(Builtin.zeroCells z.cells (nc-(xs.length+ys.length))).toList).toArray:=by
    apply Array.ext';simp
   rw[G]
   refine hQ _ ((r,Res.obj (.cells ((cs++cs')++(Builtin.zeroCells z.cells (nc-(xs.length+ys.length))).toList).toArray el (0,0)))::gr) ⟨fun p hp=>?_,by rw[lZ1];omega,.inr ⟨r,nc,cs++cs',_,gr,by rw[lZ1,Gp],rfl,hcs.append n,?_,by rw[lZ1];exact w⟩⟩
   ·rcases lZ8.1 hp with rfl|hp
    ·exact⟨_,rfl⟩
    ·exact hv.1 p hp
   ·have H:(Builtin.zeroCells z.cells (nc-(xs.length+ys.length))).toList.length=(nc-(xs.length+ys.length))*Dat.k UInt8:=by
     simp[Builtin.zeroCells,hzk]
    rw[lZ1,lZ1,hcs.len,n.len,H,←Pp,←Pp]
    congr 1;omega
 exact hGo _ h
end
end
section
open Go
theorem Agm{α:Type}{P:Program}{ρ:Ro}{σ:Own}{Q:α→Own→Prop}{c:Prop}[Decidable c]{a b:Sem α}(hc:¬c)(h:wpS P ρ b σ Q):wpS P ρ (if c then a else b) σ Q:=by rw[if_neg hc];exact h
theorem Bgg{α:Type}{P:Program}{ρ:Ro}{σ:Own}{Q:α→Own→Prop}{c:Prop}[Decidable c]{a b:Sem α}(hc:c)(h:wpS P ρ a σ Q):wpS P ρ (if c then a else b) σ Q:=by rw[if_pos hc];exact h
theorem Aay(t t' ty:TypeId)(a:Addr)(n:Int):∃A B D:Sem Value,Builtin.unsafeString_ #[t,t'] ty #[.pointer (some a),.int .i64 n]=if n<0 then A else if n>IntKind.i64.max then B else if n=0 then Sem.pure (.string .empty) else
  (elemOf t).bind fun u=>(variablesAt a u n.toNat).bind fun ok=>if ok=true then (loadBytes a .empty n.toNat).bind fun s=>(freeze a n.toNat).bind fun _=>Sem.pure (.string s) else D:=⟨_,_,_,rfl⟩
theorem Bia{α:Type}[Dat α]{ρ:Ro}{el:TypeId}{v:Value}{xs:List α}{gr:Own}(h:Grow ρ el v xs gr)(hx:xs≠[]):∃cap,v = .slice (some ⟨Ahx v,0,none⟩) xs.length cap∧cap≠0:=by
 rcases h.2.2 with⟨_,a⟩|⟨r,cap,cs,rs,gb,b,a,c,d,e⟩
 ·exact absurd a hx
 ·subst b
  refine⟨cap,rfl,?_⟩
  have:0<xs.length:=Avz.2 hx
  omega
theorem Asn{P:Program}{ρ ρ₀:Ro}{e:Env}{ty t el:TypeId}{x:Operand}{v:Value}{xs:List UInt8}{gr:Own}(hG:Grow ρ₀ el v xs gr)(hn:xs≠[])(hx:Af e x=v):Yld P ρ e (.call ⟨.builtin .unsafeSliceData,#[x],#[t]⟩) ty (.pointer (some ⟨Ahx v,0,none⟩)):=by
 obtain⟨cap,a,b⟩:=Bia hG hn
 generalize Ahx v=bl at a ⊢
 subst a
 refine Mc (args:=[x]) (vs:=[.slice (some ⟨bl,0,none⟩) xs.length cap]) (s:=fun _=>Builtin.unsafeSliceData_ #[t] ty #[.slice (some ⟨bl,0,none⟩) xs.length cap]) (by simp[hx]) (fun _=>rfl) fun ρ' σ cs _=>?_
 show wpS P ρ' (if cap≠0 then (Sem.pure (Value.pointer (some ⟨bl,0,none⟩))) else _) σ _
 rw[if_pos b]
 exact⟨rfl,rfl⟩
theorem Bpo{n cap:Nat}(h:n≤cap):liesAt Tryz.prog Tryz.prog.depth 5 (cap/Tryz.prog.cellsOf 5) 0 5 n=true:=by
 have a:(Tryz.prog.depth==0)=false:=by kernel_rfl
 have hs:sameLayout Tryz.prog Tryz.prog.depth 5 5=true:=by kernel_rfl
 have hc:Tryz.prog.cellsOf 5=1:=by kernel_rfl
 rw[hc,Nat.div_one]
 generalize hD:Tryz.prog.depth=D at *
 cases D with
 | zero=>cases a
 | succ d =>
  have hr:rowAt Tryz.prog (sameLayout Tryz.prog (d+1) · 5) (d+1) 5 cap 0 n=true:=by
   unfold rowAt
   simp only[hc,hs]
   simp[h]
  unfold liesAt
  rw[hD,hr];rfl
theorem Bks{P:Program}{ρ:Ro}{σ:Own}{r:Nat}{o:Obj}(ho:Has ρ σ r o){Q:ByteArray→Own→Prop}:∀(l:List UInt8) (off:Nat) (acc:ByteArray),
  (∀j c,l[j]?=some c→Gy o (off+j)=some (.int .u8 (c.toNat:Int)))→Q (acc++bs l) σ→wpS P ρ (loadBytes ⟨r,off,none⟩ acc l.length) σ Q
 | [],off,acc,_,h=>by
  have e:acc++bs []=acc:=by apply ByteArray.ext;rw[ByteArray.data_append];simp[bs]
  rw[e]at h;exact h
 | c::l,off,acc,hc,h=>by
  show wpS P ρ ((load ⟨r,off,none⟩).bind _) σ Q
  rw[Ad]
  refine⟨rfl,rfl,o,_,ho,by simpa using hc 0 c rfl,?_⟩
  show wpS P ρ (loadBytes ⟨r,off+1,none⟩ (acc.push ((c.toNat:Int).toNat).toUInt8) l.length) σ Q
  refine Bks ho l (off+1) _ (fun j d hd=>?_) ?_
  ·have:=hc (j+1) d (by simpa using hd)
   rw[show off+1+j=off+(j+1) by omega];exact this
  ·have e:acc.push ((c.toNat:Int).toNat).toUInt8++bs l=acc++bs (c::l):=by
    apply ByteArray.ext
    rw[ByteArray.data_append,ByteArray.data_append]
    show (acc.data.push _)++l.toArray=acc.data++(c::l).toArray
    rw[show ((c.toNat:Int).toNat).toUInt8=c by rw[Amw];exact UInt8.ofNat_toNat]
    apply Array.ext'
    simp
   rw[e];exact h
section
variable{C:Ctx}{e:Env}{ds:List Deferred}{ρ:Ro}{σ:Own}{K:Value→List Deferred→Ro→Own→Prop}{rd:Option Nat}{dd:Option Tmp}
variable{ty:TypeId}{pos:String}{af:Array Edge}{g:Option (Nat×Bool)}{x y:Operand}{v:Value}{t t':TypeId}
theorem Age{xs:List UInt8}{gr:Own}{el et:TypeId}(hT:C.P.underlying t=some (.pointer et))(hn:xs≠[])(hG:Grow ρ el v xs gr)(hx:Af e x = .pointer (some ⟨Ahx v,0,none⟩))(hy:Af e y = .int .i64 (xs.length:Int))
  (hl:∀n cap,n≤cap→liesAt C.P C.P.depth el (cap/C.P.cellsOf el) 0 et n=true)
  (h:∀gr':Own,(∀p∈gr',∃o,p.2=Res.obj o)→K (.string (bs xs)) ds ρ (gr'++σ)):wpS C.P ρ (execOp (Af e) ⟨dd,.call ⟨.builtin .unsafeString,#[x,y],#[t,t']⟩,ty,pos,af,g⟩) (gr++σ) (NextH C K rd ds ρ):=by
 have q:(#[x,y]:Array Operand).map (Af e) = #[.pointer (some ⟨Ahx v,0,none⟩),.int .i64 (xs.length:Int)]:=by simp[hx,hy]
 show wpS C.P ρ (builtin .unsafeString #[t,t'] ty ((#[x,y]:Array Operand).map fun | .const _=>true|_=>false) ((#[x,y]:Array Operand).map (Af e))) _ _
 rw[q]
 show wpS C.P ρ ((Builtin.unsafeString_ #[t,t'] ty #[.pointer (some ⟨Ahx v,0,none⟩),.int .i64 (xs.length:Int)]).bind fun v=>Sem.pure (Next.value v)) _ _
 refine Gd ?_
 have z:0<xs.length:=Avz.2 hn
 have hlt:=hG.2.1
 rcases hG.2.2 with⟨_,a⟩|⟨r,cap,cs,rs,gb,i,a,b,k,m⟩
 ·exact absurd a hn
 ·have hb:Ahx v=r:=by rw[i];rfl
  rw[hb]
  have ho:Has ρ (gr++σ) r (.cells (cs++rs).toArray el (0,0)):=.inr (by rw[a];simp)
  have hcl:cs.length=xs.length:=by rw[b.len];exact Air _
  have hcs:cs=xs.map fun c:UInt8=>Value.int .u8 (c.toNat:Int):=Anf b
  have w:(cs++rs).length=cap:=by rw[k];exact Air _
  obtain⟨A,B,D,key⟩:=Aay t t' ty ⟨r,0,none⟩ (xs.length:Int)
  rw[key]
  refine Agm (c:=(xs.length:Int)<0) (by omega) ?_
  refine Agm (c:=(xs.length:Int)>IntKind.i64.max) (by show ¬_>(9223372036854775807:Int);omega) ?_
  refine Agm (c:=(xs.length:Int)=0) (by omega) ?_
  show wpS C.P ρ ((elemOf t).bind fun u=>(variablesAt ⟨r,0,none⟩ u (xs.length:Int).toNat).bind _) _ _
  rw[Ad]
  show wpS C.P ρ ((underlying t).bind _) _ _
  rw[Ad]
  refine Az hT ?_
  show wpS C.P ρ ((variablesAt ⟨r,0,none⟩ et (xs.length:Int).toNat).bind _) _ _
  rw[Ad]
  unfold variablesAt
  show wpS C.P ρ (program.bind _) _ _
  rw[Ad]
  show wpS C.P ρ ((shape r).bind _) _ _
  rw[Ad]
  refine⟨_,ho,?_⟩
  simp only[Xk]
  rw[show (cs++rs).toArray.size=cap by rw[←w];simp,Amw]
  refine Bgg (c:=liesAt C.P C.P.depth el (cap/C.P.cellsOf el) 0 et xs.length=true) (hl _ _ m) ?_
  show wpS C.P ρ ((loadBytes ⟨r,0,none⟩ .empty xs.length).bind _) _ _
  rw[Ad]
  refine Bks ho xs 0 _ (fun j c hj=>?_) ?_
  ·simp only[Gy,Po,Ib]
   rw[Ahm (by rw[hcl];exact(Ig.1 hj).1),hcs,Oj,hj];rfl
  ·have d:ByteArray.empty++bs xs=bs xs:=by apply ByteArray.ext;rw[ByteArray.data_append];show #[]++_=_;simp
   rw[d]
   show wpS C.P ρ ((freeze ⟨r,0,none⟩ xs.length).bind _) _ _
   rw[Ad]
   refine .inr ⟨by omega,0,_,el,0,0,by rw[a];rfl,?_⟩
   show K (.string (bs xs)) ds ρ _
   have f:∀o:Res,(gr++σ).set 0 (r,o)=((r,o)::gb)++σ:=fun o=>by rw[a];rfl
   rw[f]
   exact h _ fun p hp=>by
    rcases lZ8.1 hp with rfl|hp
    ·exact⟨_,rfl⟩
    ·exact hG.1 p (by rw[a];exact lZ0 _ hp)
end
end
section
open Go
variable{mn:Bool}{X:Frame→List Frame→Ro→Own→Cy→Prop}{ρ:Ro}{σ:Own}
theorem Akz{r:Nat}{xs:List UInt8}{vb:Value}{gb:Own}(hb:Grow ρ 5 vb xs gb):CallsH (CX mn X) 65 #[pV r] ρ ((r,oC #[.pointer none,vb] 90)::(gb++σ)) (fun w ρ' σ'=>ρ'=ρ∧σ'=(r,oC #[pV r,vb] 90)::(gb++σ)∧w = .tuple #[]):=by
 refine Bf 20 [] Bsw rfl fun Q e b=>w_q rfl rfl fun d c=>Ay (pV r) (l_v (Ck rfl) (l_v (Iq Bsb rfl (Ab Bsl)) (Arv (Dt (i:=0) (v:=.pointer none) ⟨_,Bse,rfl⟩ rfl rfl rfl ?_))))
 refine l_v (Asm (a:=none) Bse rfl rfl) (l_k c (Co rfl rfl (Ag rfl rfl (Ay (pV r) (Ay (pV r) (Arv (Bao (i:=0) Bse Tryz.underlying255 ⟨_,Ab Bso,rfl⟩ (by decide) rfl rfl nL ?_)))))))
 refine Atv rfl Tryz.func122 rfl rfl rfl rfl (Bpq rfl) Bcb (Arv (Bke (i:=0) Tryz.underlying255 Bse ⟨_,Ab Bso,rfl⟩ (by decide) rfl rfl (by kernel_rfl) ?_))
 refine l_v (Ck rfl) (l_v (Iq Bsb rfl (Ab Bsl)) (Cx rfl (Cz (j:=0) (v:=pV r) ⟨_,Ab Bsl,rfl⟩ rfl rfl rfl rfl nL ?_)))
 apply Ac
 refine b ⟨rfl,rfl,rfl⟩
theorem Ala{r:Nat}{xs:List UInt8}{vb:Value}{gb:Own}(hb:Grow ρ 5 vb xs gb):CallsH (CX mn X) 65 #[pV r] ρ ((r,oC #[pV r,vb] 90)::(gb++σ)) (fun w ρ' σ'=>ρ'=ρ∧σ'=(r,oC #[pV r,vb] 90)::(gb++σ)∧w = .tuple #[]):=by
 refine Bf 20 [] Bsw rfl fun Q g b=>w_q rfl rfl fun e c=>Ay (pV r) (l_v (Ck rfl) (l_v (Iq Bsb rfl (Ab Bsl)) (Arv (Dt (i:=0) (v:=pV r) ⟨_,Bse,rfl⟩ rfl rfl rfl ?_))))
 refine l_v (Asm (a:=some ⟨r,0,none⟩) Bse rfl rfl) (l_k c (Cg rfl rfl (w_q rfl rfl fun f d=>Ay (pV r) (l_v (Ck rfl) (l_v (Iq Bsb rfl (Ab Bsl)) (Arv (Dt (i:=0) (v:=pV r) ⟨_,Bse,rfl⟩ rfl rfl rfl ?_)))))))
 refine Ay (pV r) (l_v (Bkj Bse ⟨_,Ab Bso,rfl⟩ (by decide) rfl rfl) (l_k d (Cg rfl rfl (Al (b ⟨rfl,rfl,rfl⟩)))))
theorem Acx{r:Nat}{xs:List UInt8}{vb:Value}{gb:Own}{s:List UInt8}(hb:Grow ρ 5 vb xs gb)(hx:xs.length+s.length≤1000000000):CallsH (CX mn X) 25 #[pV r,.string (bs s)] ρ ((r,oC #[.pointer none,vb] 90)::(gb++σ)) (fun w ρ' σ'=>ρ'=ρ∧∃(v':Value) (gr:Own),w = .tuple #[iV (s.length:Int),.nilIface]∧Grow ρ 5 v' (xs++s) gr∧σ'=(r,oC #[pV r,v'] 90)::(gr++σ)):=by
 refine Bf 19 [4,5] Bsr rfl fun Q e z=>w_q rfl rfl fun q g=>Av (iV 0) (Av .nilIface (Arx rfl rfl g fun t h=>Ay (pV r) (Bj (Ghost.perm Asc) (Bj (Ghost.perm Asd) (Arv (Cm (vs:=[pV r]) (Akz (r:=r) hb) Bsw rfl rfl ⟨rfl,trivial⟩ fun B C D d=>?_))))))
 obtain⟨a,b,f⟩:=d
 replace a:=a.symm;replace b:=b.symm;subst a b f
 refine Arx rfl rfl h fun u k=>Ay (pV r) (Ay (pV r) (l_v (Ck rfl) (l_v (Iq Bsb rfl (Ab Bsg)) (Arv (Dt (i:=0) (v:=vb) ⟨_,Bru,rfl⟩ rfl rfl rfl ?_)))))
 refine Ay (.string (bs s)) (Bj (Ghost.perm Asc) (Arv (Aag (σ:=(r,oC #[pV r,vb] 90)::σ) (gr:=gb) (xs:=xs) (ys:=s) Bru Brs (Ab Bsp) rfl nL rfl rfl rfl rfl hb (by omega) fun n y c=>?_)))
 refine l_v (Ck rfl) (l_v (Iq Bsb rfl (Ab Bsg)) (Bj (Ghost.perm Asd) (Cx rfl (Cz (j:=0) (v:=n) ⟨_,Ab Bsg,rfl⟩ rfl rfl (Grow.single c) rfl nL ?_))))
 refine Arx rfl rfl k fun x m=>Ay (.string (bs s)) (l_v (Ce Brs (p:=s) rfl) (Av (iV (s.length:Int)) (Av .nilIface (l_k m (Aq (e ⟨rfl,_,_,Mp (r:=4) (r':=5) (rs:=[]) (v:=iV (s.length:Int)) (v':=.nilIface) (vs:=[]) ⟨rfl,rfl,trivial⟩,c,rfl⟩))))))
theorem Acy{r:Nat}{xs:List UInt8}{vb:Value}{gb:Own}{s:List UInt8}(hb:Grow ρ 5 vb xs gb)(hx:xs.length+s.length≤1000000000):CallsH (CX mn X) 25 #[pV r,.string (bs s)] ρ ((r,oC #[pV r,vb] 90)::(gb++σ)) (fun w ρ' σ'=>ρ'=ρ∧∃(v':Value) (gr:Own),w = .tuple #[iV (s.length:Int),.nilIface]∧Grow ρ 5 v' (xs++s) gr∧σ'=(r,oC #[pV r,v'] 90)::(gr++σ)):=by
 refine Bf 19 [4,5] Bsr rfl fun Q e z=>w_q rfl rfl fun q g=>Av (iV 0) (Av .nilIface (Arx rfl rfl g fun t h=>Ay (pV r) (Bj (Ghost.perm Asc) (Bj (Ghost.perm Asd) (Arv (Cm (vs:=[pV r]) (Ala (r:=r) hb) Bsw rfl rfl ⟨rfl,trivial⟩ fun B C D d=>?_))))))
 obtain⟨a,b,f⟩:=d
 replace a:=a.symm;replace b:=b.symm;subst a b f
 refine Arx rfl rfl h fun u k=>Ay (pV r) (Ay (pV r) (l_v (Ck rfl) (l_v (Iq Bsb rfl (Ab Bsg)) (Arv (Dt (i:=0) (v:=vb) ⟨_,Bru,rfl⟩ rfl rfl rfl ?_)))))
 refine Ay (.string (bs s)) (Bj (Ghost.perm Asc) (Arv (Aag (σ:=(r,oC #[pV r,vb] 90)::σ) (gr:=gb) (xs:=xs) (ys:=s) Bru Brs (Ab Bsp) rfl nL rfl rfl rfl rfl hb (by omega) fun n y c=>?_)))
 refine l_v (Ck rfl) (l_v (Iq Bsb rfl (Ab Bsg)) (Bj (Ghost.perm Asd) (Cx rfl (Cz (j:=0) (v:=n) ⟨_,Ab Bsg,rfl⟩ rfl rfl (Grow.single c) rfl nL ?_))))
 refine Arx rfl rfl k fun x m=>Ay (.string (bs s)) (l_v (Ce Brs (p:=s) rfl) (Av (iV (s.length:Int)) (Av .nilIface (l_k m (Aq (e ⟨rfl,_,_,Mp (r:=4) (r':=5) (rs:=[]) (v:=iV (s.length:Int)) (v':=.nilIface) (vs:=[]) ⟨rfl,rfl,trivial⟩,c,rfl⟩))))))
theorem Aya{r:Nat}{xs:List UInt8}{vb:Value}{gb:Own}(hb:Grow ρ 5 vb xs gb)(hne:xs≠[]):CallsH (CX mn X) 29 #[pV r] ρ ((r,oC #[pV r,vb] 90)::(gb++σ)) (rP ρ σ (.string (bs xs))):=by
 refine Bf 14 [2] Tryz.func29 rfl fun Q b j=>w_q rfl rfl fun e c=>Av (.string (ByteArray.mk #[])) (Asa c fun f d=>Abl ((r,oC #[pV r,vb] 90)::[]) [0,1,2,3,4,5,6,7,8,9,10,11] (by kernel_rfl) rfl rfl (Fj 0 (zT 1 11) rfl ⟨Bsy,sB⟩ rfl (Yld.o (Ah (v:=pV r) rfl)) (Fj 1 (zT 2 10) rfl ⟨Bsy,sB⟩ rfl (Yld.o (Ck rfl)) (Fj 2 (zT 3 9) rfl ⟨Bsy,sB⟩ rfl (Yld.o (Iq Bsb rfl (Ab Bsg))) (Fj 3 (zT 4 8) rfl ⟨Bsy,sB⟩ rfl (Fs (v:=vb) ⟨_,Bru,rfl⟩ rfl mC rfl) (Fj 5 [o1,o1,o1,o1,o0,o1,o0,o0,o0,o0,o0,o0] rfl ⟨Bsy,sB⟩ rfl (Yld.o (Ah (v:=pV r) rfl)) (Fj 6 [o1,o1,o1,o1,o0,o1,o1,o0,o0,o0,o0,o0] rfl ⟨Bsy,sB⟩ rfl (Yld.o (Ck rfl)) (Fj 7 [o1,o1,o1,o1,o0,o1,o1,o1,o0,o0,o0,o0] rfl ⟨Bsy,sB⟩ rfl (Yld.o (Iq Bsb rfl (Ab Bsg))) (Fj 8 [o1,o1,o1,o1,o0,o1,o1,o1,o1,o0,o0,o0] rfl ⟨Bsy,sB⟩ rfl (Fs (v:=vb) ⟨_,Bru,rfl⟩ rfl mC rfl) ?_)))))))))
 have g:=Grow.len hb
 refine Fj 9 [o1,o1,o1,o1,o0,o1,o1,o1,o1,o1,o0,o0] rfl ⟨Bsy,sB⟩ rfl (Yld.o (Ajw (el':=5) Bru rfl hb)) (Jx 4 (zT 10 2) rfl ⟨Bsy,sB⟩ rfl (Yld.o (Asn hb hne rfl)) ⟨Bsy,sB⟩ (Bnh Asc (Bnj 10 (zT 11 1) rfl rfl (Age (σ:=(r,oC #[pV r,vb] 90)::σ) (gr:=gb) (v:=vb) (xs:=xs) Tryz.underlying176 hne hb rfl rfl (fun _ _ h=>Bpo h) fun i a=>⟨⟨Bsy,sB⟩,?_⟩))))
 refine Jx 11 (zT 12 0) rfl ⟨Bsy,sB⟩ rfl (Yld.o (Cp (v:=.string (bs xs)) rfl)) ⟨Bsy,sB⟩ (Ajc rfl (kk d ?_))
 refine Aj (drops a) (Aj Ghost.drop (Aq (b (rT (.string (bs xs)) ?_))))
 rfl
end
section
open Go
section
variable{e:Env}{ρ:Ro}{xs:Array Operand}{vs:Array Value}{tys:Array TypeId}{ty:TypeId}{f:FuncId}{fn:Func}{G:Array Value→Sem Value}
theorem Bkh{P:Program}{σ:Own}{Q:Next→Own→Prop}(hf:P.funcs[f]?=some fn)(hn:(fn.name == "runtime.NumGoroutine")=false)(hb:fn.body.isNone=true)(hx0:Extern.findNext fn=none)(he:Extern.find fn=some G)
  (h:wpS P ρ (G vs) σ (fun v σ'=>Q (.value v) σ')):wpS P ρ (callFunc f vs) σ Q:=by
 unfold callFunc
 show wpS P ρ ((program).bind _) σ Q
 rw[Ad]
 show wpS P ρ (match P.funcs[f]? with|none=>_|some fn=>_) σ Q
 rw[hf]
 simp only[hn,hb]
 show wpS P ρ ((Go.mark (.extern f)).bind _) σ Q
 rw[Ad]
 refine⟨trivial,?_⟩
 simp only[hx0,he]
 show wpS P ρ ((G vs).bind fun v=>Sem.pure (Next.value v)) σ Q
 rw[Ad]
 exact h
theorem Bca(e:Env)(hx:xs.map (Af e)=vs)(d:Option Tmp)(pos:String)(af:Array Edge)(g:Option (Nat×Bool)):execOp (Af e) ⟨d,.call ⟨.value (.func f),xs,tys⟩,ty,pos,af,g⟩=callFunc f vs:=by
 show callFunc f ((#[]++xs.map (Af e)) ++ #[])=_
 rw[Wx,Vh,hx]
end
end
section
open Go
section
variable{e:Env}{ρ:Ro}{xs:Array Operand}{vs:Array Value}{tys:Array TypeId}{ty:TypeId}{f:FuncId}{fn:Func}{G:Array Value→Sem Value}
end
theorem Arn{α:Type}[Dat α]{ρ:Ro}:∀{xs ys:List α} {cs:List Value},Rows ρ cs (xs++ys)→∃c1 c2,cs=c1++c2∧Rows ρ c1 xs∧Rows ρ c2 ys
 | [],ys,cs,h=>⟨[],cs,rfl,rfl,h⟩
 | x::xs,ys,cs,⟨c1,c2,h1,h2,h3⟩=>by
  obtain⟨d1,d2,g1,g2,g3⟩:=Arn (xs:=xs) h3
  exact⟨c1++d1,d2,by rw[h1,g1,lZ9],⟨c1,d1,rfl,h2,g2⟩,g3⟩
section
variable{C:Ctx}{e:Env}{ds:List Deferred}{ρ:Ro}{σ:Own}{K:Value→List Deferred→Ro→Own→Prop}{rd:Option Nat}{dd:Option Tmp}
variable{ty:TypeId}{pos:String}{af:Array Edge}{g:Option (Nat×Bool)}{x y:Operand}{v:Value}{t t':TypeId}
theorem Grow.part{α:Type}[Dat α]{el:TypeId}{a:Option Addr}{len cap h:Nat}{xs:List α}{gr:Own}(hG:Grow ρ el (.slice a len cap) xs gr)(hh:h≤xs.length):Grow ρ el (.slice a h cap) (xs.take h) gr:=by
 rcases hG.2.2 with⟨d,e⟩|⟨r,k,cs,rs,gb,d,e,i,j,n⟩
 ·subst e
  have:h=0:=by simpa using hh
  subst this
  cases d
  exact⟨hG.1,by simp,.inl ⟨rfl,rfl⟩⟩
 ·cases d
  obtain⟨b,c,f,g,m⟩:∃b c,cs=b++c∧Rows ρ b (xs.take h)∧Rows ρ c (xs.drop h):=by
   have:=i
   rw[←Aao h xs]at this
   exact Arn this
  refine⟨hG.1,by have:=hG.2.1;rw[Ea];omega,.inr ⟨r,cap,b,c++rs,gb,by rw[Ea,Nat.min_eq_left hh],by rw[e,f,lZ9],g,by rw[←j,f,lZ9],by rw[Ea];omega⟩⟩
theorem Aur{P:Program}{α:Type}[Dat α]{xs:List α}{gr:Own}{el:TypeId}{k:IntKind}{q:Int}(h:Nat)(hT:P.underlying t=some (.slice el))(hE:∃i,P.info? el=some i∧i.size=Dat.k α)(hx:Af e x=v)(hv:Grow ρ el v xs gr)(hy:Af e y = .int k q)(hq:q=(h:Int))(hh:h≤xs.length) :
  ∃w,Grow ρ el w (xs.take h) gr∧Yld P ρ e (.slice t x none (some y) none) ty w:=by
 obtain⟨a,len,cap,b,c,d⟩:∃a len cap,v = .slice a len cap∧len=xs.length∧len≤cap:=by
  rcases hv.2.2 with⟨b,c⟩|⟨r,cap,cs,rs,gb,b,c,d,g,f⟩
  ·exact⟨none,0,0,b,by simp[c],Et _⟩
  ·exact⟨_,_,_,b,rfl,f⟩
 subst b
 refine⟨_,hv.part hh,Mt (s:=Instr.sliceAt t (Af e x) none (some (Af e y)) none) (fun _ _ _ _=>rfl) fun ρ' σ _=>?_⟩
 rw[hx,hy,hq]
 show wpS P ρ' ((underlying t).bind _) σ _
 rw[Ad]
 refine Az hT ?_
 show wpS P ρ' ((underlying t).bind _) σ _
 rw[Ad]
 refine Az hT ?_
 simp only[]
 show wpS P ρ' ((Instr.sliceBounds true len cap none (some (.int k h)) none).bind _) σ _
 have hb:Instr.sliceBounds true len cap none (some (.int k (h:Int))) none=pure (0,h,cap):=by
  show (do let m ←pure cap;let hh ←Instr.sliceBound (.int k (h:Int)) m _;let l ←pure 0;pure (l,hh,m):Sem _)=_
  have:Instr.sliceBound (.int k (h:Int)) cap .sliceAcap=pure h:=by
   show (if 0≤(h:Int)∧(h:Int)≤cap then pure (h:Int).toNat else _)=_
   rw[if_pos (by omega)];simp
  show (Instr.sliceBound (.int k (h:Int)) cap .sliceAcap).bind _=_
  rw[this];rfl
 rw[hb]
 show wpS P ρ' ((sizeOf el).bind _) σ _
 rw[Ad]
 refine Dx hE ⟨?_,rfl⟩
 by_cases hc:cap=0
 ·simp[hc]
 ·cases a with
  | none=>simp[hc]
  | some ad=>simp[hc,Addr.add]
end
end
section
open Go
theorem Bow:Fw Tryz.prog 90 (.agg #[.pointer none,.slice none 0 0]):=⟨_,Ab Bso,rfl⟩
def smL:List UInt8:=(List.append (List.append [48,48,48,49,48,50,48,51,48,52,48,53,48,54,48,55,48,56,48,57,49,48,49,49,49,50,49,51,49,52,49,53,49,54,49,55,49,56,49,57,50,48,50,49,50,50,50,51,50,52] [50,53,50,54,50,55,50,56,50,57,51,48,51,49,51,50,51,51,51,52,51,53,51,54,51,55,51,56,51,57,52,48,52,49,52,50,52,51,52,52,52,53,52,54,52,55,52,56,52,57]) (List.append [53,48,53,49,53,50,53,51,53,52,53,53,53,54,53,55,53,56,53,57,54,48,54,49,54,50,54,51,54,52,54,53,54,54,54,55,54,56,54,57,55,48,55,49,55,50,55,51,55,52] [55,53,55,54,55,55,55,56,55,57,56,48,56,49,56,50,56,51,56,52,56,53,56,54,56,55,56,56,56,57,57,48,57,49,57,50,57,51,57,52,57,53,57,54,57,55,57,56,57,57]))
theorem Bjv{n:Nat}(h0:10≤n)(h:n<100):(smL.take (n*2+2)).drop (n*2)=Ew n:=by
 have key:(List.range 100).all (fun n=>decide (n<10)||((smL.take (n*2+2)).drop (n*2)==Ew n))=true:=by decide +kernel
 have:=Hs.1 key n (Aip.2 h)
 rw[Om (by omega),Awe]at this
 exact eq_of_beq this
theorem Bju{n:Nat}(h:n<10):((([48,49,50,51,52,53,54,55,56,57,97,98,99,100,101,102,103,104,105,106,107,108,109,110,111,112,113,114,115,116,117,118,119,120,121,122]:List UInt8).take (n+1)).drop n)=Ew n:=by
 have key:(List.range 10).all (fun n=>((([48,49,50,51,52,53,54,55,56,57,97,98,99,100,101,102,103,104,105,106,107,108,109,110,111,112,113,114,115,116,117,118,119,120,121,122]:List UInt8).take (n+1)).drop n)==Ew n)=true:=by decide +kernel
 exact eq_of_beq (Hs.1 key n (Aip.2 h))
end
section
open Go
def bw(ws:List (List UInt8)):List ByteArray:=ws.map bs
section
variable{l:Lab}{m:Market}
end
end
section
open Go
theorem Ie{c n:UInt8}(h:((c.toNat:Nat):Int)=((n.toNat:Nat):Int)):c=n:=UInt8.toNat_inj.1 (by omega)
theorem Rh{c n:UInt8}(h:¬((c.toNat:Nat):Int)=((n.toNat:Nat):Int)):c≠n:=fun e=>h (by rw[e])
theorem Pa{α:Type}{l:List α}{i:Nat}{x:α}(h:l[i]?=some x):l.drop i=x::l.drop (i+1):=by
 have hi:i<l.length:=(Ig.1 h).1
 rw[Avp hi]
 rw[Um hi]at h
 rw[Option.some.inj h]
theorem Ajd{t:List UInt8}{i fr:Nat}{c:UInt8}(h:t[i]?=some c)(hf:fr≤i):(t.take i).drop fr++[c]=(t.take (i+1)).drop fr:=by
 have hi:i<t.length:=(Ig.1 h).1
 rw[Pz h,Bip (by rw[Ea];omega)]
theorem Ze{t:List UInt8}{i:Nat}:(t.take i).drop i=[]:=Avr (by rw[Ea];omega)
theorem Oa{t:List UInt8}{i fr:Nat}(h:i≤t.length):((t.take i).drop fr).length=i-fr:=by rw[En,Ea];omega
theorem Bkn(ws:List ByteArray):bw (wl ws)=ws:=by
 unfold wl bw
 rw[List.map_map]
 exact List.map_id'' (fun _=>rfl) ws
theorem Anj{a b:List ByteArray}:wl (a++b)=wl a++wl b:=by simp[wl]
def Rg(t:List UInt8)(i fr:Nat)(ov:List ByteArray):Prop:=Fg t=wl ov++Md ((t.take i).drop fr) (t.drop i)
theorem Brd{t:List UInt8}:Rg t 0 0 []:=rfl
theorem Bmt{t:List UInt8}{i fr:Nat}{ov:List ByteArray}{c:UInt8}(h:Rg t i fr ov)(hc:t[i]?=some c)(h10:c=10):Rg t (i+1) (i+1) (ov++[bs ((t.take i).drop fr)]):=by
 unfold Rg at *
 rw[h,Pa hc,Anj,Ze]
 show wl ov++(if c=10 then _ else _)=_
 rw[if_pos h10,lZ9];rfl
theorem Bpp{t:List UInt8}{i fr:Nat}{ov:List ByteArray}{c:UInt8}(h:Rg t i fr ov)(hc:t[i]?=some c)(hf:fr≤i)(h10:c≠10):Rg t (i+1) fr ov:=by
 unfold Rg at *
 rw[h,Pa hc,←Ajd hc hf]
 show wl ov++(if c=10 then _ else _)=_
 rw[if_neg h10]
theorem Bmu{t:List UInt8}{i fr:Nat}{ov:List ByteArray}(h:Rg t i fr ov)(hi:i=t.length)(hf:¬fr<t.length):ov=bw (Fg t):=by
 unfold Rg at h
 rw[h,hi,Apz,Avr (by rw[Ea];omega)]
 show ov=bw (wl ov++[])
 rw[Lz,Bkn]
theorem Bit{t:List UInt8}{i fr:Nat}{ov:List ByteArray}(h:Rg t i fr ov)(hi:i=t.length)(hf:fr<t.length):ov++[bs ((t.take t.length).drop fr)]=bw (Fg t):=by
 unfold Rg at h
 rw[h,hi,Apz]
 show _=bw (wl ov++(if (t.take t.length).drop fr=[] then [] else [(t.take t.length).drop fr]))
 rw[if_neg (fun hc=>by have:=congrArg List.length hc;rw[Oa (Et _)]at this;simp at this;omega)]
 unfold bw
 rw[Ir]
 have:=Bkn ov
 unfold bw at this
 rw[this];rfl
def Uo(t:List UInt8)(i fr:Nat)(ov:List ByteArray):Prop:=(∀w∈wl ov,w≠[])∧(i≤t.length→fr≤i∧Cu t=wl ov++Ef 32 ((t.take i).drop fr) (t.drop i))∧(t.length<i→Cu t=wl ov)
theorem Bqx{t:List UInt8}:Uo t 0 0 []:=⟨fun w h=>(by cases h),fun _=>⟨Et _,rfl⟩,fun h=>absurd h (by omega)⟩
theorem Bcc{t:List UInt8}{i fr:Nat}{ov:List ByteArray}(hn:∀w∈wl ov,w≠[])(hf:fr<i)(hi:i≤t.length):∀w∈wl (ov++[bs ((t.take i).drop fr)]),w≠[]:=fun w hw=>by
 rw[Anj]at hw
 rcases Fb.1 hw with h|h
 ·exact hn w h
 ·rw[Lc.1 (show w∈[(t.take i).drop fr] from h)]
  intro hc
  have:=congrArg List.length hc
  rw[Oa hi]at this
  simp at this;omega
theorem Bme{t:List UInt8}{i fr:Nat}{ov:List ByteArray}{c:UInt8}(h:Uo t i fr ov)(hc:t[i]?=some c)(h32:c=32)(hne:i≠fr):Uo t (i+1) (i+1) (ov++[bs ((t.take i).drop fr)]):=by
 have hi:i<t.length:=(Ig.1 hc).1
 obtain⟨hf,hs⟩:=h.2.1 (by omega)
 refine⟨Bcc h.1 (by omega) (by omega),fun _=>⟨Et _,?_⟩,fun hx=>absurd hx (by omega)⟩
 rw[hs,Pa hc,Anj,Ze]
 show wl ov++(if c=32 then _ else _)=_
 rw[if_pos h32,lZ9];rfl
theorem Bmf{t:List UInt8}{i fr:Nat}{ov:List ByteArray}(h:Uo t i fr ov)(hi:i=t.length)(hne:i≠fr):Uo t (i+1) (i+1) (ov++[bs ((t.take i).drop fr)]):=by
 obtain⟨hf,hs⟩:=h.2.1 (by omega)
 refine⟨Bcc h.1 (by omega) (by omega),fun hx=>absurd hx (by omega),fun _=>?_⟩
 rw[hs,hi,Apz,Anj];rfl
theorem Bpi{t:List UInt8}{i fr:Nat}{ov:List ByteArray}{c:UInt8}(h:Uo t i fr ov)(hc:t[i]?=some c)(h32:c≠32):Uo t (i+1) fr ov:=by
 have hi:i<t.length:=(Ig.1 hc).1
 obtain⟨hf,hs⟩:=h.2.1 (by omega)
 refine⟨h.1,fun _=>⟨by omega,?_⟩,fun hx=>absurd hx (by omega)⟩
 rw[hs,Pa hc,←Ajd hc hf]
 show wl ov++(if c=32 then _ else _)=_
 rw[if_neg h32]
def Oe(s:List UInt8):Bool:=(Cu s).any List.isEmpty
theorem Bcd{t:List UInt8}{i fr:Nat}{ov:List ByteArray}(h:Uo t i fr ov)(hi:i≤t.length)(hb:i=t.length∨t[i]?=some 32)(he:i=fr):Oe t=true:=by
 obtain⟨hf,hs⟩:=h.2.1 hi
 unfold Oe
 rw[hs,List.any_append,←he,Ze]
 have:(Ef 32 [] (t.drop i)).any List.isEmpty=true:=by
  rcases hb with hb|hb
  ·rw[hb,Apz];rfl
  ·rw[Pa hb];rfl
 rw[this,Bool.or_true]
theorem Bpj{t:List UInt8}{i fr:Nat}{ov:List ByteArray}(h:Uo t i fr ov)(hi:t.length<i):Oe t=false∧Cu t=wl ov:=by
 have hs:=h.2.2 hi
 refine⟨?_,hs⟩
 unfold Oe
 rw[hs,Aze]
 intro w hw hc
 exact h.1 w hw (List.isEmpty_iff.1 hc)
theorem Arr:∀{s acc:List UInt8},Ef 32 acc s≠[]
 | [],_=>by simp[Ef]
 | x::s,acc=>by
  show (if x=32 then _ else _)≠[]
  split
  ·simp
  ·exact Arr
theorem Adm{d:List UInt8}{i:Nat}{c:UInt8}(h:d[i]?=some c):Ri (d.take (i+1))=10*Ri (d.take i)+(c.toNat-48):=by rw[Pz h,Aoo]
theorem Blx{c:UInt8}(h1:¬((c.toNat:Nat):Int)<48)(h2:¬((c.toNat:Nat):Int)>57):Df c=true:=by
 unfold Df;simp;omega
theorem Bbb{d:List UInt8}{i:Nat}{c:UInt8}(h:d[i]?=some c)(ha:(d.take i).all Df=true)(hc:Df c=true):(d.take (i+1)).all Df=true:=by
 rw[Pz h,Aqg,ha];simp[hc]
theorem Auv{d:List UInt8}{i:Nat}{c:UInt8}(h:d[i]?=some c)(hc:Df c=false):d.all Df=false:=by
 rw[List.all_eq_false]
 exact⟨c,lZ6 h,by rw[hc];simp⟩
theorem Aor{c:UInt8}(h1:((c.toNat:Nat):Int)<48):Df c=false:=by
 unfold Df;simp;omega
theorem Aos{c:UInt8}(h1:((c.toNat:Nat):Int)>57):Df c=false:=by
 unfold Df;simp;omega
theorem Abd:∀{n:Nat} {d:List UInt8},d.all Df=true→d.length≤n→Ri d<10^n
 | n,d=>by
  intro ha hl
  have key:∀(l:List UInt8) (a k:Nat),l.all Df=true→a<10^k→l.foldl (fun n c=>10*n+(c.toNat-48)) a<10^(k+l.length):=by
   intro l
   induction l with
   | nil=>intro a k _ h;simpa using h
   | cons c l ih =>
    intro a k ha h
    simp only[Un,Fd]at ha
    have hc:c.toNat-48≤9:=by have:=ha.1;unfold Df at this;simp at this;omega
    have:=ih (10*a+(c.toNat-48)) (k+1) ha.2 (by rw[Nat.pow_succ];omega)
    rw[Aio,lZ2,show k+(l.length+1)=k+1+l.length by omega]
    exact this
  have b:=key d 0 0 ha (by decide)
  rw[Po]at b
  exact Ng b (Nat.pow_le_pow_right (by decide) hl)
theorem Aka{s:List UInt8}(h:Eo s=true):(s.take s.length).drop 1=Cf s:=by unfold Cf;rw[h,if_pos rfl,Nn]
theorem Asp{s:List UInt8}(h:Eo s=false):Cf s=s:=by unfold Cf;rw[h];rfl
theorem Aks{s:List UInt8}:(Cf s).length≤s.length:=by
 unfold Cf;split
 ·rw[En];omega
 ·exact Et _
theorem Axx{s:List UInt8}(h:Eo s=true):1<s.length:=by
 unfold Eo at h;rw[Fd]at h;exact lZ3 h.1
theorem Awm{s:List UInt8}{c:UInt8}(h1:((s.length:Nat):Int)>1)(hc:s[0]?=some c)(h:c=45):Eo s=true:=by
 unfold Eo
 rw[Lg (by omega)]
 cases s with
 | nil=>cases hc
 | cons a r=>simp at hc;subst hc;rw[h];rfl
theorem Abi{s:List UInt8}(h:¬((s.length:Nat):Int)>1∨∃c,s[0]?=some c∧c≠45):Eo s=false:=by
 unfold Eo
 rcases h with h|⟨c,h1,h2⟩
 ·rw[Om (by omega)];rfl
 ·cases s with
  | nil=>cases h1
  | cons a r=>simp at h1;subst h1;simp[h2]
theorem Bix{s:List UInt8}(h:¬(1≤(Cf s).length∧(Cf s).length≤9)):Er s=false:=by
 unfold Er
 by_cases h1:1≤(Cf s).length
 ·rw[Om (by omega:¬(Cf s).length≤9)];simp
 ·rw[Om h1];simp
theorem Awo{s:List UInt8}(h:(Cf s).all Df=false):Er s=false:=by unfold Er;rw[h];simp
theorem Aqr{s:List UInt8}{c:UInt8}(hc:(Cf s)[0]?=some c)(h:c=48)(hs:s≠[48]):Er s=false:=by
 unfold Er
 cases hb:Cf s with
 | nil=>rw[hb]at hc;cases hc
 | cons a r=>rw[hb]at hc;simp at hc;subst hc;rw[h];simp[hs]
theorem Bek{s:List UInt8}(h1:1≤(Cf s).length)(h9:(Cf s).length≤9)(ha:(Cf s).all Df=true)(hz:∀c,(Cf s)[0]?=some c→c≠48∨s=[48]):Er s=true:=by
 unfold Er
 rw[Lg h1,Lg h9,ha]
 cases hb:Cf s with
 | nil=>rw[hb]at h1;simp at h1
 | cons a r =>
  rcases hz a (by rw[hb];rfl) with h|h
  ·simp[h]
  ·simp[h]
def Jb(s:List UInt8):Int:=if Er s then Jt s else 0
theorem Zc{s:List UInt8}(h:Er s=false):Jb s=0:=by unfold Jb;rw[h];rfl
theorem Afj{s:List UInt8}(h:Er s=true):Jb s=Jt s:=by unfold Jb;rw[h,if_pos rfl]
theorem Bkf{ov:List ByteArray}{a:ByteArray}(h:ov[0]?=some a):wl ov=a.data.toList::wl (ov.drop 1):=by
 cases ov with
 | nil=>cases h
 | cons b r=>simp at h;subst h;rfl
theorem Boo{ov:List ByteArray}{t:List UInt8}(h:Cu t=wl ov):0<ov.length:=by
 cases ov with
 | nil=>exact absurd h Arr
 | cons b r=>simp
theorem Bnq{s:List UInt8}{c:UInt8}(hc:s[0]?=some c)(h:s.length≤1)(e:c=48):s=[48]:=by
 match s,hc,h with
 | [a],hc,_=>simp at hc;rw[hc,e]
theorem Bei{s:List UInt8}(h:s.length>1):s≠[48]:=fun e=>by rw[e]at h;simp at h
theorem Abj{s:List UInt8}:-1000000000<Jb s∧Jb s<1000000000:=by
 unfold Jb
 split
 ·rename_i h
  have hh:=h
  unfold Er at h
  simp only[Fd,decide_eq_true_eq]at h
  have:=Abd (n:=9) h.1.2 h.1.1.2
  unfold Jt
  split<;>omega
 ·omega
end
section
open Go
theorem Adv{n:Nat}{p q:Nat→Bool}(h:∀i,i<n→p i=q i):Cl n p=Cl n q:=by
 rcases Ft (n:=n) (p:=q) with⟨i,hi,hp,hj,he⟩|⟨a,he⟩
 ·rw[he];exact Fh (fun j hj'=>by rw[h j (by omega)];exact hj j hj') hi (by rw[h i hi];exact hp)
 ·rw[he];exact Ep fun j hj=>by rw[h j hj];exact a j hj
def Mk(c:UInt8)(p:List UInt8):Int:=Oi p (fun x=>x==c)
theorem Tq{c:UInt8}{p:List UInt8}:(∃i:Nat,Mk c p=(i:Int)∧i<p.length∧p[i]?=some c∧∀j,j<i→p[j]?≠some c)∨(Mk c p = -1∧∀x∈p,x≠c):=by
 unfold Mk Oi
 rcases Ft (n:=p.length) (p:=atP p (fun x=>x==c)) with⟨i,hi,hp,hj,he⟩|⟨a,he⟩
 ·refine .inl ⟨i,by rw[he],hi,?_,fun j hj' hc=>?_⟩
  ·obtain⟨x,hx⟩:=Ed hi
   simp only[atP,hx]at hp
   rw[hx,eq_of_beq hp]
  ·have:=hj j hj'
   simp only[atP,hc]at this
   simp at this
 ·refine .inr ⟨by rw[he],fun x hx hc=>?_⟩
  obtain⟨i,hi⟩:=Avv.1 hx
  have:=a i (Ig.1 hi).1
  simp only[atP,hi,hc]at this
  simp at this
theorem Bln{p:List UInt8}{i:Nat}(h:i<p.length):p[i]?=some ((bs p)[i]!):=by
 show _=some ((ByteArray.mk p.toArray)[i]!)
 rw[Go.Lib.get!_eq,Uk,Um h];rfl
theorem Ahs{c:UInt8}:Extern.Bytes.asByte (.int .u8 (c.toNat:Int))=Sem.pure c:=by
 show Sem.pure ((c.toNat:Int).toNat.toUInt8)=_
 rw[Amw]
 show Sem.pure (UInt8.ofNat c.toNat)=_
 rw[UInt8.ofNat_toNat]
theorem Bhw{P:Program}{ρ:Ro}{σ:Own}{p:List UInt8}{c:UInt8}:wpS P ρ (Extern.BytealgIndexByte.indexByte #[.string (bs p),.int .u8 (c.toNat:Int)]) σ (fun w σ'=>w = .int .i64 (Mk c p)∧σ'=σ):=by
 unfold Extern.BytealgIndexByte.indexByte
 show wpS P ρ ((Extern.Bytes.bytesOf (.string (bs p))).bind _) σ _
 rw[Ad]
 show wpS P ρ ((Extern.Bytes.asByte (.int .u8 (c.toNat:Int))).bind _) σ _
 rw[Ad,Ahs]
 have e:((List.range (bs p).size).find? fun i=>(bs p)[i]! == c)=Cl p.length (atP p (fun x=>x==c)):=by
  rw[Gp]
  exact Adv fun i hi=>by simp only[atP,Bln hi]
 show wpS P ρ (match (List.range (bs p).size).find? fun i=>(bs p)[i]! == c with|some i=>pure (goInt i)|none=>pure (goInt (-1))) σ _
 rw[e]
 unfold Mk Oi
 cases Cl p.length (atP p (fun x=>x==c))<;>exact⟨rfl,rfl⟩
theorem Bhv{P:Program}{ρ:Ro}{σ:Own}{p:List UInt8}{c:UInt8}:wpS P ρ (Extern.BytealgCount.count #[.string (bs p),.int .u8 (c.toNat:Int)]) σ (fun w σ'=>w = .int .i64 ((p.count c:Nat):Int)∧σ'=σ):=by
 unfold Extern.BytealgCount.count
 show wpS P ρ ((Extern.Bytes.bytesOf (.string (bs p))).bind _) σ _
 rw[Ad]
 show wpS P ρ ((Extern.Bytes.asByte (.int .u8 (c.toNat:Int))).bind _) σ _
 rw[Ad,Ahs]
 show goInt ((bs p).foldl (fun (n:Int) x=>if x==c then n+1 else n) ((0:Nat):Int)) = .int .i64 ((p.count c:Nat):Int)∧σ=σ
 rw[Go.Lib.foldl_data,Go.Lib.count_foldl]
 exact⟨by show Value.int .i64 (0+_)=_;rw[Int.zero_add];rfl,rfl⟩
theorem Bhh{α:Type}{s:List α}{m:Nat}{c:α}(h:s[m]?=some c):s=s.take m++c::s.drop (m+1):=by
 conv=>lhs;rw[←Aao m s]
 rw[Pa h]
theorem Arq{s:List UInt8}{m:Nat}(h:s[m]?=some 32)(hj:∀j,j<m→s[j]?≠some 32):Cu s=s.take m::Cu (s.drop (m+1)):=by
 conv=>lhs;rw[Bhh h]
 unfold Cu
 rw[Qz (fun c hc he=>?_),Pj]
 obtain⟨j,hj'⟩:=Avv.1 hc
 rw[Bdg]at hj'
 split at hj'
 ·rename_i hlt;exact hj j hlt (by rw[hj',he])
 ·cases hj'
theorem Ars{s:List UInt8}(h:∀x∈s,x≠32):Cu s=[s]:=by
 unfold Cu;rw[Vv h,Pj]
theorem Zk:∀{s acc:List UInt8},(Ef 32 acc s).length=s.count 32+1
 | [],acc=>rfl
 | x::s,acc=>by
  show (if x=32 then acc::Ef 32 [] s else Ef 32 (acc++[x]) s).length=_
  rw[List.count_cons]
  split
  ·rename_i h;rw[lZ2,Zk,h];simp
  ·rename_i h;rw[Zk];simp[h]
theorem Ajn{s:List UInt8}:(Cu s).length=s.count 32+1:=Zk
theorem Blv{s:List UInt8}{c:UInt8}:s.count c≤s.length:=List.count_le_length
theorem Aum{L:List (List UInt8)}{s:List UInt8}{i:Nat}(h:L.drop i=Cu s)(hi:i+1<L.length):∃m:Nat,Mk 32 s=(m:Int)∧m<s.length∧L[i]?=some (s.take m)∧L.drop (i+1)=Cu (s.drop (m+1)):=by
 rcases Tq (c:=32) (p:=s) with⟨m,b,a,d,e⟩|⟨b,a⟩
 ·rw[Arq d e]at h
  refine⟨m,b,a,?_,?_⟩
  ·have:=congrArg (·[0]?) h
   simpa[Yx]using this
  ·have:=congrArg (List.drop 1) h
   rw[Aqh]at this
   simpa using this
 ·rw[Ars a]at h
  have:=congrArg List.length h
  rw[En]at this
  simp at this;omega
theorem Aul{L:List (List UInt8)}{s:List UInt8}{i:Nat}(h:L.drop i=Cu s)(hi:i+1=L.length):L[i]?=some s:=by
 have hl:=congrArg List.length h
 rw[En]at hl
 rcases Tq (c:=32) (p:=s) with⟨m,b,a,d,e⟩|⟨b,a⟩
 ·rw[Arq d e,lZ2,Ajn]at hl;omega
 ·rw[Ars a]at h
  have:=congrArg (·[0]?) h
  simpa[Yx]using this
def spW(L:List (List UInt8))(i:Nat):List ByteArray:=bw (L.take i)++List.replicate (L.length-i) (ByteArray.mk #[])
theorem Bqe{L:List (List UInt8)}{n:Nat}(h:n=L.length):List.replicate n (ByteArray.mk #[])=spW L 0:=by
 unfold spW;rw[h];rfl
theorem Ha{L:List (List UInt8)}{i:Nat}(h:i≤L.length):(spW L i).length=L.length:=by
 unfold spW bw;rw[lZ1,Aax,Ea,Aqe];omega
theorem Axf{L:List (List UInt8)}{i:Nat}{w:List UInt8}(h:L[i]?=some w):(spW L i).set i (bs w)=spW L (i+1):=by
 have hi:i<L.length:=(Ig.1 h).1
 unfold spW
 have hl:(bw (L.take i)).length=i:=by unfold bw;rw[Aax,Ea];omega
 rw[List.set_append_right _ _ (by omega),hl,Aek,show L.length-i=(L.length-(i+1))+1 by omega,Bdf,Apr,Pz h]
 unfold bw
 rw[Ir,lZ9];rfl
theorem Bjw{L:List (List UInt8)}{i:Nat}(h:i=L.length):(spW L i).take i=bw L:=by
 unfold spW;rw[h,Nn,Aek,List.replicate_zero,Lz]
 exact Avs (by unfold bw;simp)
theorem Bot{P:Program}{ρ:Ro}{e:Env}{ty:TypeId}{x y:Operand}{k:IntKind}{a b r:Nat}{tys:Array TypeId}(h:min a b=r)(hx:Af e x = .int k (a:Int))(hy:Af e y = .int k (b:Int)):Yld P ρ e (.call ⟨.builtin .min,#[x,y],tys⟩) ty (.int k (r:Int)):=by
 have c:=Ajx (P:=P) (ρ:=ρ) (ty:=ty) (tys:=tys) hx hy
 rwa[show min (a:Int) (b:Int)=(r:Int) by omega]at c
theorem Aro{ρ:Ro}:∀(n:Nat),Rows ρ (List.replicate n (Value.string (ByteArray.mk #[]))) (List.replicate n (ByteArray.mk #[]))
 | 0=>rfl
 | n+1=>⟨[.string (ByteArray.mk #[])],List.replicate n (.string (ByteArray.mk #[])),rfl,⟨rfl,by show (0:Nat)<_;decide⟩,Aro n⟩
section
variable{C:Ctx}{e:Env}{ds:List Deferred}{ρ:Ro}{σ:Own}{K:Value→List Deferred→Ro→Own→Prop}{rd:Option Nat}{dd:Option Tmp}
variable{ty:TypeId}{pos:String}{af:Array Edge}{g:Option (Nat×Bool)}{x y:Operand}{t:TypeId}
theorem Auo{el:TypeId}{ti:TypeInfo}{n:Nat}(hT:C.P.underlying t=some (.slice el))(hi:C.P.info? el=some ti)(hik:ti.size=1)(hib:ti.bytes≤1000)(hz:ti.zero=some (.string (ByteArray.mk #[])))
  (hx:Af e x = .int .i64 (n:Int)) (hy:Af e y = .int .i64 (n:Int)) (hn:n<1073741824) (h:∀v gr,Grow ρ el v (List.replicate n (ByteArray.mk #[])) gr→K v ds ρ (gr++σ)) :
  wpS C.P ρ (execOp (Af e) ⟨dd,.makeSlice t x y,ty,pos,af,g⟩) σ (NextH C K rd ds ρ) :=
 Asg hT hi hik hib hz rfl hx hy hn fun r=>h _ [_] ⟨fun p hp=>by rw[Lc.1 hp];exact⟨_,rfl⟩,by rw[Aqe];omega,.inr ⟨r,n,List.replicate n (.string (ByteArray.mk #[])),[],[],by rw[Aqe],by rw[Lz],Aro n,by rw[Lz,Aqe];exact(Air n).symm,by rw[Aqe];exact Et _⟩⟩
end
end
section
open Go
/-- Without a line feed at the end. -/
def Bc(p:List UInt8):List UInt8:=if (p.drop (p.length-1)==[10])=true then p.take (p.length-1) else p
theorem Bky{c:UInt8}(h:([32]:List UInt8)[0]?=some c):c=32:=by simpa using h.symm
variable{mn:Bool}{X:Frame→List Frame→Ro→Own→Cy→Prop}{ρ:Ro}{σ:Own}
theorem Aog{p:List UInt8}(hb:p.length≤60000):CallsH (CX mn X) 160 #[.string (bs p),.string (bs ([10]:List UInt8))] ρ σ (rP ρ σ (.bool (p.drop (p.length-1)==[10]))):=by
 refine Bf 21 [4] Tryz.func160 rfl fun Q b i=>w_q rfl rfl fun f d=>Av bF (Arx rfl rfl d fun g c=>Ay (.string (bs p)) (l_v (Ce Brs (p:=p) rfl) (Ay (.string (bs ([10]:List UInt8))) (l_v (Ce Brs (p:=([10]:List UInt8)) rfl) (l_v (Uy rfl rfl) (Ay (.bool (decide ((p.length:Int)≥1))) (Cn (decide ((p.length:Int)≥1)) (fun a=>?_) (fun a=>?_))))))))
 ·have e:=lZ3 a
  refine l_M (.string (bs p)) (gY rfl a) rfl (l_M (.string (bs p)) (gY rfl a) rfl (Aa (gY rfl a) (Ce Brs (p:=p) rfl) (l_M (.string (bs ([10]:List UInt8))) (gY rfl a) rfl (Aa (gY rfl a) (Ce Brs (p:=([10]:List UInt8)) rfl) (Aa (gY rfl a) (Ou (p:=(p.length:Int)) (q:=1) rfl rfl (z:=(((p.length-1):Nat):Int)) (Bo (by omega) (by omega) (by omega))) (Aa (gY rfl a) (Lp (p:=p) (l:=p.length-1) (h:=p.length) Brs rfl (.inr ⟨_,rfl,rfl⟩) (.inl ⟨rfl,rfl⟩) (by omega) (by omega)) (l_M (.string (bs ([10]:List UInt8))) (gY rfl a) rfl (Aa (gY rfl a) (Us (p:=(p.take p.length).drop (p.length-1)) (q:=([10]:List UInt8)) rfl rfl) (l_v (Bt rfl a (v:=.bool ((((p.take p.length).drop (p.length-1)))==([10]:List UInt8))) rfl) (Av (.bool ((((p.take p.length).drop (p.length-1)))==([10]:List UInt8))) (l_k c (Aq (b ⟨rfl,rfl,eT (.bool ((((p.take p.length).drop (p.length-1)))==([10]:List UInt8))) ?_⟩)))))))))))))
  rw[Nn]
 have e:=lZ4 a
 refine Ap (gN rfl a) (Ap (gN rfl a) (Ap (gN rfl a) (Ap (gN rfl a) (Ap (gN rfl a) (Ap (gN rfl a) (Ap (gN rfl a) (Ap (gN rfl a) (Ap (gN rfl a) (l_v (Bn rfl a (v:=bF) rfl) (Av bF (l_k c (Aq (b (rT bF ?_))))))))))))))
 have hp:p=[]:=Aem (by omega)
 subst hp;rfl
theorem Acw{p:List UInt8}{c:UInt8} :CallsH (CX mn X) 124 #[.string (bs p),.int .u8 (c.toNat:Int)] ρ σ (rP ρ σ (iV (Mk c p))):=by
 refine Bf 8 [4] Tryz.func124 rfl fun Q a g=>w_q rfl rfl fun e b=>Av (iV 0) (Arx rfl rfl b fun f d=>Ay (.string (bs p)) (Ay (.int .u8 (c.toNat:Int)) (Atv rfl Tryz.func159 rfl rfl rfl rfl (Bkt rfl rfl) (Bhw (p:=p) (c:=c)) (Av (iV (Mk c p)) (l_k d (Aq (a (rT (iV (Mk c p)) ?_))))))))
 rfl
theorem Ayf{p:List UInt8}{c:UInt8} :CallsH (CX mn X) 69 #[.string (bs p),.int .u8 (c.toNat:Int)] ρ σ (rP ρ σ (iV (Mk c p))):=by
 refine Bf 8 [4] Tryz.func69 rfl fun Q a g=>w_q rfl rfl fun e b=>Av (iV 0) (Arx rfl rfl b fun f d=>Ay (.string (bs p)) (Ay (.int .u8 (c.toNat:Int)) (Arv (Ii (Acw (p:=p) (c:=c)) Tryz.func124 ?_))))
 refine Av (iV (Mk c p)) (l_k d (Aq (a (rT (iV (Mk c p)) ?_))))
 rfl
theorem Bgy{p:List UInt8} :CallsH (CX mn X) 234 #[.string (bs p),.string (bs ([32]:List UInt8))] ρ σ (rP ρ σ (iV (Mk 32 p))):=by
 refine Bf 143 [4] Tryz.func234 rfl fun Q e D=>w_q rfl rfl fun u f=>Av (iV 0) (Arx rfl rfl f fun w g=>Ay (.string (bs ([32]:List UInt8))) (l_v (Ce Brs (p:=([32]:List UInt8)) rfl) (Av (iV 1) (Asa g fun x F=>Ao (w_q rfl rfl fun y h=>Ay (iV 1) (l_v (Ek rfl rfl) (Ay bF (l_M (.string (bs ([32]:List UInt8))) (gY rfl rfl) rfl (l_M (.string (bs p)) (gY rfl rfl) rfl (Aa (gY rfl rfl) (Us (p:=([32]:List UInt8)) (q:=p) rfl rfl) (l_v (Bn rfl rfl (v:=.bool ((([32]:List UInt8))==p)) rfl) (Av (.bool ((([32]:List UInt8))==p)) (l_k h (Bb (t:=(([32]:List UInt8))==p) rfl (fun b=>?_) (fun b=>?_)))))))))))))))
 ·have n:=Jr b
  refine w_q rfl rfl fun z j=>Av (iV 0) (l_k j (Aq (e (rT (iV 0) ?_))))
  have hp:=eq_of_beq b
  rw[←hp];rfl
 have n:=Jq b
 refine w_q rfl rfl fun B k=>Ay (iV 1) (l_v (Ek rfl rfl) (Av bT (l_k k (Co rfl rfl (w_q rfl rfl fun C m=>Ay (.string (bs p)) (Ay (.string (bs ([32]:List UInt8))) ?_))))))
 obtain⟨a,d⟩:=Nd (p:=([32]:List UInt8)) (i:=0) (by decide)
 have E:=a.toNat_lt
 refine l_v (Cr (p:=([32]:List UInt8)) 0 a Brs rfl (q:=0) rfl rfl d) (Arv (Ii (Acw (p:=p) (c:=a)) Tryz.func124 ?_))
 refine Av (iV (Mk a p)) (l_k m (Aq (e (rT (iV (Mk a p)) ?_))))
 rw[Bky d]
theorem Blq{p:List UInt8} :CallsH (CX mn X) 196 #[.string (bs p),.string (bs ([32]:List UInt8))] ρ σ (rP ρ σ (iV (Mk 32 p))):=by
 refine Bf 8 [4] Tryz.func196 rfl fun Q a f=>w_q rfl rfl fun d b=>Av (iV 0) (Arx rfl rfl b fun e c=>Ay (.string (bs p)) (Ay (.string (bs ([32]:List UInt8))) (Arv (Ii (Bgy (p:=p)) Tryz.func234 ?_))))
 refine Av (iV (Mk 32 p)) (l_k c (Aq (a (rT (iV (Mk 32 p)) ?_))))
 rfl
theorem Bgx{p:List UInt8}{m:Nat}(h:Mk 32 p=(m:Int)):CallsH (CX mn X) 196 #[.string (bs p),.string (bs ([32]:List UInt8))] ρ σ (rP ρ σ (iV m)):=by
 rw[←h];exact Blq
theorem Bgw{p:List UInt8} :CallsH (CX mn X) 195 #[.string (bs p),.string (bs ([32]:List UInt8))] ρ σ (rP ρ σ (iV (p.count 32:Nat))):=by
 refine Bf 34 [4] Tryz.func195 rfl fun Q d w=>w_q rfl rfl fun k e=>Av (iV 0) (Ary rfl rfl e fun m n f g=>Ay (.string (bs ([32]:List UInt8))) (l_v (Ce Brs (p:=([32]:List UInt8)) rfl) (l_v (Ek rfl rfl) (l_k g (Cg rfl rfl (Al (kk f ?_)))))))
 refine Asb rfl rfl fun t u y h=>Ay (.string (bs ([32]:List UInt8))) (l_v (Ce Brs (p:=([32]:List UInt8)) rfl) (l_v (Ek rfl rfl) (l_k h (Co rfl rfl (w_q rfl rfl fun v j=>Ay (.string (bs p)) (Ay (.string (bs ([32]:List UInt8))) ?_))))))
 obtain⟨a,b⟩:=Nd (p:=([32]:List UInt8)) (i:=0) (by decide)
 have x:=a.toNat_lt
 refine l_v (Cr (p:=([32]:List UInt8)) 0 a Brs rfl (q:=0) rfl rfl b) (Atv rfl Tryz.func233 rfl rfl rfl rfl (Bkt rfl rfl) (Bhv (p:=p) (c:=a)) (Av (iV ((p.count a):Nat)) (l_k j (Aq (d (rT (iV ((p.count a):Nat)) ?_))))))
 rw[Bky b]
theorem Asu{p:List UInt8}(hb:p.length≤60000):CallsH (CX mn X) 147 #[.string (bs p),.string (bs ([32]:List UInt8)),iV 0,iV (-1)] ρ σ (fun w ρ' σ'=>Ro.le ρ ρ'∧σ'=σ∧Val ρ' w (bw (Cu p):List ByteArray)):=by
 have hcl:=Blv (s:=p) (c:=32)
 have hsl:=Ajn (s:=p)
 refine Bf 66 [8] Tryz.func147 rfl fun Q P ao=>w_q rfl rfl fun K1 R=>Av nS (Ary rfl rfl R fun K2 K3 k2 k3=>Ay (iV (-1)) (l_v (Ek rfl rfl) (l_k k3 (Cg rfl rfl (Al (kk k2 ?_))))))
 refine Asb rfl rfl fun K4 K5 k4 k5=>Ay (.string (bs ([32]:List UInt8))) (l_v (Us (p:=([32]:List UInt8)) (q:=([]:List UInt8)) rfl rfl) (l_k k5 (Cg rfl (by decide) (Al (kk k4 ?_)))))
 refine Asb rfl rfl fun K6 K7 k6 k7=>Ay (iV (-1)) (l_v (Da rfl rfl) (l_k k7 (Co rfl rfl (Ag rfl rfl (Ay (.string (bs p)) (Ay (.string (bs ([32]:List UInt8))) (Arv (Ii (Bgw (p:=p)) Tryz.func195 ?_))))))))
 refine l_v (Ga ((((p.count 32)+1):Nat):Int)) (Av (iV ((((p.count 32)+1):Nat):Int)) (Arx rfl rfl k6 fun K8 k8=>Ay (iV ((((p.count 32)+1):Nat):Int)) (Ay (.string (bs p)) (l_v (Ce Brs (p:=p) rfl) (l_v (Ga (((p.length+1):Nat):Int)) (l_v (Bot (r:=0+(p.count 32+1)) (by omega) rfl rfl) ?_))))))
 obtain⟨n,hn_⟩:∃z:Nat,z=(0+(p.count 32+1)):=⟨_,rfl⟩
 refine l_v (Cp (v:=iV n) ((show _=Value.int .i64 ((((0+(p.count 32+1))):Nat):Int) from rfl).trans (by rw[hn_]))) ?_
 have hnL:n=(Cu p).length:=by omega
 refine Arx rfl rfl k8 fun K9 k9=>Ay (iV n) (Arv (Auo (n:=n) Brt (Ab Bsc) rfl nL rfl rfl rfl (by omega) fun C I E=>?_))
 refine Av C (Arx rfl rfl k9 fun a9 T=>Ay (iV n) (l_v (Ou (p:=(n:Int)) (q:=1) rfl rfl (z:=(((n-1):Nat):Int)) (Bo (by omega) (by omega) (by omega))) (Av (iV ((n-1):Nat)) (Arx rfl rfl T fun aa U=>Av (iV 0) (Asa U fun ab V=>Ao (Cc (fun mm ee dd ρ' σ'=>∃(i:Nat) (s:List UInt8) (a:Value) (d:Own),(n-i)=mm∧[]=dd∧Ro.le ρ ρ'∧(d++σ)=σ'∧ee 1=(.string (bs ([32]:List UInt8)))∧ee 2=iV 0∧ee 3=(iV ((n-1):Nat))∧ee 0=(.string (bs s))∧ee 9=a∧ee 10=iV i∧(i+1≤n)∧((Cu p).drop i=Cu s)∧(s.length≤60000)∧Grow ρ' 9 a (spW (Cu p) i) d∧True) (m:=_) ⟨0,p,C,I,rfl,rfl,Bsy,rfl,rfl,rfl,rfl,rfl,rfl,rfl,(by omega),(by rw[Vi]),hb,Fy (Bqe hnL) E,trivial⟩ ?_))))))
 rintro aq al _ av _ ⟨i,s,a,d,rfl,rfl,y,rfl,k,u,x,g,j,b,ar,B,au,e,_⟩
 have ap:=Ha (L:=Cu p) (i:=i) (by omega)
 refine Asb rfl rfl fun ac ad W Y=>l_v (Ah (v:=iV i) b) (l_v (Ah (v:=iV ((n-1):Nat)) x) (l_v (Da rfl rfl) (l_k Y (Bb (t:=decide ((i:Int)<(((n-1):Nat):Int))) rfl (fun f=>?_) (fun f=>?_)))))
 ·obtain⟨m,M,an,N,O⟩:=Aum B (by have:=lZ3 f;omega)
  have a7:=lZ3 f
  refine Al (kk W ?_)
  refine Ao (w_q rfl rfl fun ae Z=>l_v (Ah (v:=.string (bs s)) g) (l_v (Ah (v:=.string (bs ([32]:List UInt8))) k) (Arv (Ii (Bgx (p:=s) M) Tryz.func196 ?_))))
  refine Av (iV m) (Ary rfl rfl Z fun af ag a0 a1=>Ay (iV m) (l_v (Da rfl rfl) (l_k a1 (Cg rfl (Om (by omega)) (Al (kk a0 ?_))))))
  refine w_q rfl rfl fun ah a2=>l_v (Ah (v:=a) j) (l_v (Ah (v:=iV i) b) (l_v (Ah (v:=.string (bs s)) g) (Ay (iV m) (l_v (Ah (v:=iV 0) u) (l_v (Ga (((m+0):Nat):Int)) (l_v (Lp (p:=s) (l:=0) (h:=m+0) Brs rfl (.inl ⟨rfl,rfl⟩) (.inr ⟨_,rfl,rfl⟩) (by first|omega|(rw[Ha (by omega)];omega)|(simp only[Sm];rw[Ha (by omega)];omega)) (by first|omega|(rw[Ha (by omega)];omega)|(simp only[Sm];rw[Ha (by omega)];omega))) (l_v (Nw i Brt ty9.info rfl e (q:=(i:Int)) rfl rfl (by first|omega|(rw[Ha (by omega)];omega)|(simp only[Sm];rw[Ha (by omega)];omega)) rfl) (Cx rfl (Ash (σ:=σ) (gr:=d) (i:=i) (v:=a) (w:=.string (bs ((s.take (m+0)).drop 0))) ty9.info rfl rfl rfl (Rb (l:=(s.take (m+0)).drop 0) (by first|omega|(simp only[En,Ea];omega))) e (by rw[Ha (by omega)];omega) fun J F=>?_)))))))))
  refine Arx rfl rfl a2 fun ai a3=>l_v (Ah (v:=.string (bs s)) g) (Ay (iV m) (l_v (Ah (v:=.string (bs ([32]:List UInt8))) k) (l_v (Ce Brs (p:=([32]:List UInt8)) rfl) (l_v (Ga (((m+1):Nat):Int)) (l_v (Lp (p:=s) (l:=m+1) (h:=s.length) Brs rfl (.inr ⟨_,rfl,rfl⟩) (.inl ⟨rfl,rfl⟩) (by first|omega|(rw[Ha (by omega)];omega)|(simp only[Sm];rw[Ha (by omega)];omega)) (by first|omega|(rw[Ha (by omega)];omega)|(simp only[Sm];rw[Ha (by omega)];omega))) (Av (.string (bs ((s.take s.length).drop (m+1)))) (l_k a3 (Ag rfl rfl (l_v (Ah (v:=iV i) b) (l_v (Ga (((i+1):Nat):Int)) (Av (iV ((i+1):Nat)) (Ac ?_))))))))))))
  refine⟨_,?_,(i+1),((s.take s.length).drop (m+1)),a,J,rfl,rfl,y,rfl,k,u,x,rfl,j,rfl,(by omega),(by have:=O;simpa using this),(by simp only[En,Ea];omega),(Fy (Axf N) F),trivial⟩
  omega
 have a7:=lZ4 f
 refine Bx (kk V ?_)
 refine Ai fun aj a4=>?_
 have K:=Aul B (by omega)
 refine Ag rfl rfl (l_v (Ah (v:=a) j) (l_v (Ah (v:=iV i) b) (l_v (Ah (v:=.string (bs s)) g) (l_v (Nw i Brt ty9.info rfl e (q:=(i:Int)) rfl rfl (by first|omega|(rw[Ha (by omega)];omega)|(simp only[Sm];rw[Ha (by omega)];omega)) rfl) (Cx rfl (Ash (σ:=σ) (gr:=d) (i:=i) (v:=a) (w:=.string (bs s)) ty9.info rfl rfl rfl (Rb (l:=s) (by first|omega|(simp only[En,Ea];omega))) e (by rw[Ha (by omega)];omega) fun am G=>?_))))))
 refine Arx rfl rfl a4 fun ak a5=>l_v (Ah (v:=a) j) (l_v (Ah (v:=iV i) b) (l_v (Ga (((i+1):Nat):Int)) (Arw (Aur (i+1) Brt ty9.2 rfl G rfl rfl (by first|omega|(rw[Ha (by omega)];omega)|(simp only[Sm];rw[Ha (by omega)];omega))) fun D H=>Av D (l_k a5 (Hc H fun aw a6 a8=>Aq (P ⟨Bsz y a6,rfl,Abz (v:=D) rfl (Val.cast ?_ a8)⟩))))))
 ·rw[Axf K,Bjw (by omega)]
theorem Bhb{p:List UInt8}(hb:p.length≤60000):CallsH (CX mn X) 118 #[.string (bs p),.string (bs ([32]:List UInt8))] ρ σ (fun w ρ' σ'=>Ro.le ρ ρ'∧σ'=σ∧Val ρ' w (bw (Cu p):List ByteArray)):=by
 refine Bf 8 [4] Tryz.func118 rfl fun Q d k=>w_q rfl rfl fun i e=>Av nS (Arx rfl rfl e fun j f=>Ay (.string (bs p)) (Ay (.string (bs ([32]:List UInt8))) (Arv (Cm (vs:=[.string (bs p),.string (bs ([32]:List UInt8)),iV 0,iV (-1)]) (Asu (p:=p) (by omega)) Tryz.func147 rfl rfl ⟨rfl,rfl,rfl,rfl,trivial⟩ fun b m n c=>?_))))
 obtain⟨g,a,h⟩:=c
 replace a:=a.symm;subst a
 refine Av b (l_k f (Aq (d ⟨g,rfl,Abz (v:=b) rfl (Val.cast ?_ h)⟩)))
 ·rfl
end
section
open Go
def dgT(i:Nat):List Bool:=(List.range 256).map fun k=>decide (48≤k)&&decide (k<48+i)
theorem Bpf:List.replicate 256 false=dgT 0:=by
 have:(List.replicate 256 false==dgT 0)=true:=by decide +kernel
 exact eq_of_beq this
theorem Bhk{i:Nat}(h:i<10):(dgT i).set (48+i) true=dgT (i+1):=by
 have key:(List.range 10).all (fun i=>(dgT i).set (48+i) true==dgT (i+1))=true:=by decide +kernel
 exact eq_of_beq (Hs.1 key i (Aip.2 h))
theorem Bhj{i:Nat}:(dgT i).length=256:=by unfold dgT;simp
theorem Bhi{c:UInt8}:(dgT 10)[c.toNat]?=some (Df c):=by
 have hc:=c.toNat_lt
 unfold dgT Df
 rw[Oj,Avy (by omega)]
 simp only[Aes]
 congr 2
 rw[decide_eq_decide];omega
theorem Bgj:Fw Tryz.prog 282 (.agg ((List.replicate 256 false).map Value.bool).toArray):=⟨_,Ab Bsj,by kernel_rfl⟩
def trR(p:List UInt8):List UInt8:=(p.reverse.dropWhile Df).reverse
def trL(p:List UInt8):List UInt8:=p.dropWhile Df
def Qa(p:List UInt8):List UInt8:=trL (trR p)
theorem Vo{s:List UInt8}{c:UInt8}(h:s[s.length-1]?=some c):s=s.take (s.length-1)++[c]:=by
 have hl:=(Ig.1 h).1
 have:=Pz h
 rw[show s.length-1+1=s.length by omega,Nn]at this
 exact this
theorem Bgb{s:List UInt8}{c:UInt8}(h:s[s.length-1]?=some c)(hd:Df c=true):trR (s.take (s.length-1))=trR s:=by
 conv=>rhs;rw[Vo h]
 unfold trR
 rw[List.reverse_append]
 show _=(List.dropWhile Df (c::(s.take (s.length-1)).reverse)).reverse
 rw[Azd,if_pos hd]
theorem Bgc{s:List UInt8}{c:UInt8}(h:s[s.length-1]?=some c)(hd:Df c=false):trR s=s:=by
 conv=>lhs;rw[Vo h]
 unfold trR
 rw[List.reverse_append]
 show (List.dropWhile Df (c::(s.take (s.length-1)).reverse)).reverse=_
 rw[Azd,if_neg (by simp[hd]),List.reverse_cons,List.reverse_reverse]
 exact(Vo h).symm
theorem Bkd{s:List UInt8}(h:s.length=0):trR s=s:=by
 rw[Aem h];rfl
theorem Bfz{s:List UInt8}{c:UInt8}(h:s[0]?=some c)(hd:Df c=true):trL (s.drop 1)=trL s:=by
 cases s with
 | nil=>cases h
 | cons x r =>
  obtain rfl:x=c:=by simpa using h
  show trL r=List.dropWhile Df (x::r)
  rw[Azd,if_pos hd];rfl
theorem Bga{s:List UInt8}{c:UInt8}(h:s[0]?=some c)(hd:Df c=false):trL s=s:=by
 cases s with
 | nil=>cases h
 | cons x r =>
  obtain rfl:x=c:=by simpa using h
  show List.dropWhile Df (x::r)=_
  rw[Azd,if_neg (by simp[hd])]
theorem Bkc{s:List UInt8}(h:s.length=0):trL s=s:=by
 rw[Aem h];rfl
theorem Bol{p:List UInt8}:(trR p).length≤p.length:=by
 unfold trR
 rw[List.length_reverse]
 exact Mm (List.dropWhile_sublist _).length_le (by rw[List.length_reverse];exact Et _)
theorem Aib:∀{p:List UInt8},p.all Df=true→p.dropWhile Df=[]
 | [],_=>rfl
 | x::r,h=>by
  rw[Un,Fd]at h
  rw[Azd,if_pos h.1];exact Aib h.2
theorem Yh:∀{p:List UInt8},p.all Df=false→∃c r,p.dropWhile Df=c::r∧Df c=false
 | [],h=>by cases h
 | x::r,h=>by
  rw[Azd]
  by_cases hx:Df x=true
  ·rw[if_pos hx]
   exact Yh (by rw[Un,hx,Awf]at h;exact h)
  ·rw[if_neg hx];exact⟨x,r,rfl,by simpa using hx⟩
theorem Xq{p:List UInt8}:(Qa p != []) = !(p.all Df):=by
 cases h:p.all Df with
 | true =>
  have:trR p=[]:=by
   unfold trR;rw[Aib (by rw[List.all_reverse];exact h)];rfl
  unfold Qa;rw[this];rfl
 | false =>
  obtain⟨c,r,a,b⟩:=Yh (p:=p.reverse) (by rw[List.all_reverse];exact h)
  have e:trR p=r.reverse++[c]:=by unfold trR;rw[a,List.reverse_cons]
  have d:(trR p).all Df=false:=by rw[e,Aqg];simp[b]
  obtain⟨c',r',f,g⟩:=Yh d
  have:Qa p=c'::r':=f
  rw[this];rfl
def Dv(s:List UInt8):List UInt8:=if (s.take 1==[45])=true then s.drop 1 else s
theorem Bbe{s:List UInt8}:(Dv s).length≤s.length:=by
 unfold Dv;split
 ·rw[En];omega
 ·exact Et _
theorem Bbd{s:List UInt8}(h:s≠[45]):Dv s=Cf s:=by
 unfold Dv Cf Eo
 match s with
 | []=>rfl
 | [x] =>
  have hx:x≠45:=fun e=>h (by rw[e])
  simp[hx]
 | x::y::r=>by_cases hx:x=45<;>simp[hx]
theorem Abk{s:List UInt8}:Er s=(decide (1≤(Dv s).length)&&decide ((Dv s).length≤9)&&(Dv s).all Df && !((Dv s).head?==some 48 && !(s==[48]))):=by
 by_cases h:s=[45]
 ·subst h;decide
 ·rw[Bbd h];rfl
theorem Bnc{s:List UInt8}(h:¬(1≤(Dv s).length∧(Dv s).length≤9)):Er s=false:=by
 rw[Abk]
 by_cases h1:1≤(Dv s).length
 ·rw[Om (p:=(Dv s).length≤9) (fun a=>h ⟨h1,a⟩)];simp
 ·rw[Om h1];simp
theorem Bnd{s:List UInt8}(h:(Dv s).all Df=false):Er s=false:=by rw[Abk,h];simp
theorem Bne{s:List UInt8}{c:UInt8}(h:(Dv s)[0]?=some c)(hc:c=48)(hs:s≠[48]):Er s=false:=by
 rw[Abk]
 cases hb:Dv s with
 | nil=>rw[hb]at h;cases h
 | cons x r =>
  rw[hb]at h
  obtain rfl:x=c:=by simpa using h
  subst hc
  have:(s==[48])=false:=by simpa using hs
  rw[this];simp
theorem Bkv{s:List UInt8}{c:UInt8}(h1:1≤(Dv s).length)(h9:(Dv s).length≤9)(ha:(Dv s).all Df=true)(h:(Dv s)[0]?=some c)(hz:c≠48∨s=[48]):Er s=true:=by
 rw[Abk,Lg h1,Lg h9,ha]
 rcases hz with hz|hz
 ·cases hb:Dv s with
  | nil=>rw[hb]at h;cases h
  | cons x r =>
   rw[hb]at h
   obtain rfl:x=c:=by simpa using h
   simp[hz]
 ·subst hz;decide
theorem Aja{s:List UInt8}(h:Er s=true):1≤(Cf s).length∧(Cf s).length≤9∧(Cf s).all Df=true:=by
 unfold Er at h
 simp only[Fd,decide_eq_true_eq]at h
 exact⟨h.1.1.1,h.1.1.2,h.1.2⟩
theorem Bbf{s:List UInt8}:s.length≤(Cf s).length+1∧(Cf s).length≤s.length:=by
 unfold Cf;split
 ·rename_i h
  rw[En]
  unfold Eo at h
  simp at h;omega
 ·omega
theorem Bnb{s:List UInt8}{c:UInt8}(h:Er s=true)(hc:s[0]?=some c):(c=45∧Eo s=true)∨(48≤c.toNat∧c.toNat≤57∧Eo s=false):=by
 obtain⟨b,d,a⟩:=Aja h
 cases hm:Eo s with
 | true =>
  refine .inl ⟨?_,rfl⟩
  unfold Eo at hm
  cases s with
  | nil=>cases hc
  | cons x r =>
   obtain rfl:x=c:=by simpa using hc
   simp at hm;exact hm.2
 | false =>
  have hD:Cf s=s:=by unfold Cf;rw[hm];rfl
  rw[hD]at a
  have:=Hs.1 a c (lZ6 hc)
  unfold Df at this
  simp at this
  exact .inr ⟨this.1,this.2,rfl⟩
theorem Alj{c:UInt8}(h:Df c=true):48≤c.toNat∧c.toNat≤57:=by
 unfold Df at h;simpa using h
theorem Baz{d:List UInt8}{i:Nat}{c:UInt8}(ha:d.all Df=true)(h:d[i]?=some c):Df c=true:=Hs.1 ha c (lZ6 h)
end
section
open Go
theorem Bpg{i:Nat}{c:UInt8}(h:bZ0[i]?=some c):i<10∧c.toNat=48+i:=by
 have hi:i<10:=(Ig.1 h).1
 have key:(List.range 10).all (fun i=>(bZ0[i]?).all fun c=>c.toNat==48+i)=true:=by decide
 have:=Hs.1 key i (Aip.2 hi)
 rw[h]at this
 exact⟨hi,eq_of_beq this⟩
variable{mn:Bool}{X:Frame→List Frame→Ro→Own→Cy→Prop}{ρ:Ro}{σ:Own}
theorem Aof{p:List UInt8}(hb:p.length≤60000):CallsH (CX mn X) 253 #[.string (bs p),.string (bs ([45]:List UInt8))] ρ σ (rP ρ σ (.bool (p.take 1==[45]))):=by
 refine Bf 18 [4] Tryz.func253 rfl fun Q b i=>w_q rfl rfl fun f d=>Av bF (Arx rfl rfl d fun g c=>Ay (.string (bs p)) (l_v (Ce Brs (p:=p) rfl) (Ay (.string (bs ([45]:List UInt8))) (l_v (Ce Brs (p:=([45]:List UInt8)) rfl) (l_v (Uy rfl rfl) (Ay (.bool (decide ((p.length:Int)≥1))) (Cn (decide ((p.length:Int)≥1)) (fun a=>?_) (fun a=>?_))))))))
 ·have e:=lZ3 a
  refine l_M (.string (bs p)) (gY rfl a) rfl (l_M (.string (bs ([45]:List UInt8))) (gY rfl a) rfl (Aa (gY rfl a) (Ce Brs (p:=([45]:List UInt8)) rfl) (Aa (gY rfl a) (Lp (p:=p) (l:=0) (h:=1) Brs rfl (.inl ⟨rfl,rfl⟩) (.inr ⟨_,rfl,rfl⟩) (by omega) (by omega)) (l_M (.string (bs ([45]:List UInt8))) (gY rfl a) rfl (Aa (gY rfl a) (Us (p:=(p.take 1).drop 0) (q:=([45]:List UInt8)) rfl rfl) (l_v (Bt rfl a (v:=.bool ((((p.take 1).drop 0))==([45]:List UInt8))) rfl) (Av (.bool ((((p.take 1).drop 0))==([45]:List UInt8))) (l_k c (Aq (b ⟨rfl,rfl,eT (.bool ((((p.take 1).drop 0))==([45]:List UInt8))) ?_⟩))))))))))
  rfl
 have e:=lZ4 a
 refine Ap (gN rfl a) (Ap (gN rfl a) (Ap (gN rfl a) (Ap (gN rfl a) (Ap (gN rfl a) (Ap (gN rfl a) (l_v (Bn rfl a (v:=bF) rfl) (Av bF (l_k c (Aq (b (rT bF ?_)))))))))))
 have hp:p=[]:=Aem (by omega)
 subst hp;rfl
theorem Ayh{p:List UInt8}(hb:p.length≤60000):CallsH (CX mn X) 215 #[.string (bs p),.string (bs ([45]:List UInt8))] ρ σ (rP ρ σ (.string (bs (Dv p)))):=by
 refine Bf 13 [4] Tryz.func215 rfl fun Q b q=>w_q rfl rfl fun i c=>Av (.string (ByteArray.mk #[])) (Ary rfl rfl c fun j k d e=>Ay (.string (bs p)) (Ay (.string (bs ([45]:List UInt8))) (Arv (Ii (Aof (p:=p) (by omega)) Tryz.func253 ?_))))
 refine l_k e (Bb (t:=p.take 1==[45]) rfl (fun a=>?_) (fun a=>?_))
 ·have u:1≤p.length:=by
   cases p with
   | nil=>exact absurd a (by decide)
   | cons=>simp
  refine w_q rfl rfl fun m f=>Ay (.string (bs p)) (Ay (.string (bs ([45]:List UInt8))) (l_v (Ce Brs (p:=([45]:List UInt8)) rfl) (l_v (Lp (p:=p) (l:=1) (h:=p.length) Brs rfl (.inr ⟨_,rfl,rfl⟩) (.inl ⟨rfl,rfl⟩) (by omega) (by omega)) (Av (.string (bs ((p.take p.length).drop 1))) (l_k f (Aq (b (rT (.string (bs ((p.take p.length).drop 1))) ?_))))))))
  unfold Dv;rw[a,Nn];rfl
 refine Al (kk d ?_)
 refine w_q rfl rfl fun n g=>Ay (.string (bs p)) (Av (.string (bs p)) (l_k g (Aq (b (rT (.string (bs p)) ?_)))))
 unfold Dv;rw[a];rfl
theorem Akx{p:List UInt8}(hb:p.length≤60000):CallsH (CX mn X) 168 #[.string (bs p),.string (bs ([45]:List UInt8))] ρ σ (rP ρ σ (.string (bs (Dv p)))):=by
 refine Bf 8 [4] Tryz.func168 rfl fun Q a f=>w_q rfl rfl fun d b=>Av (.string (ByteArray.mk #[])) (Arx rfl rfl b fun e c=>Ay (.string (bs p)) (Ay (.string (bs ([45]:List UInt8))) (Arv (Ii (Ayh (p:=p) (by omega)) Tryz.func215 ?_))))
 refine Av (.string (bs (Dv p))) (l_k c (Aq (a (rT (.string (bs (Dv p))) ?_))))
 rfl
theorem Ayi  :CallsH (CX mn X) 163 #[.string (bs bZ0)] ρ σ (rP ρ σ (.tuple #[.agg ((dgT 10).map Value.bool).toArray,bT])):=by
 refine Lt (n:=21) (args:=[.string (bs bZ0)]) [.cell 2 282,.tmp 3] Tryz.func163 rfl rfl rfl rfl fun Q x a0=>w_q rfl rfl fun L z=>Arv (Ct Bgj fun w=>?_)
 refine Av bF (Ary rfl rfl z fun R T F G=>Av (iV 0) (l_k G (Ao (Cc (fun mm ee dd ρ' σ'=>∃(i:Nat) (b:List Bool),(10-i)=mm∧[]=dd∧ρ=ρ'∧((w,oC (b.map Value.bool).toArray 282)::σ)=σ'∧ee 0=(.string (bs bZ0))∧ee 2=pV w∧ee 4=iV i∧(i≤10)∧b=dgT i∧b.length=256∧True) (m:=_) ⟨0,List.replicate 256 false,rfl,rfl,rfl,rfl,rfl,rfl,rfl,Mq _,Bpf,Aqe,trivial⟩ ?_))))
 rintro m5 Y _ _ _ ⟨i,b,rfl,rfl,rfl,rfl,g,d,h,a2,k,c,_⟩
 refine Asb rfl rfl fun U V H I=>l_v (Ah (v:=iV i) h) (l_v (Ah (v:=.string (bs bZ0)) g) (l_v (Ce Brs (p:=bZ0) rfl) (l_v (Da rfl rfl) (l_k I (Bb (t:=decide ((i:Int)<10)) rfl (fun e=>?_) (fun e=>?_))))))
 ·have K:=lZ3 e
  refine Al (kk H ?_)
  refine Ai fun W J=>Ao (w_q rfl rfl fun M B=>l_v (Ah (v:=.string (bs bZ0)) g) (l_v (Ah (v:=iV i) h) ?_))
  obtain⟨a,u⟩:=Nd (p:=bZ0) (i:=i) (by first|omega|(show _<10;omega))
  have a1:=a.toNat_lt
  obtain⟨Z,y⟩:=Bpg u
  refine l_v (Cr (p:=bZ0) i a Brs rfl (q:=(i:Int)) rfl rfl u) (Av (.int .u8 (a.toNat:Int)) (Ary rfl rfl B fun N O C D=>Ay (.int .u8 (a.toNat:Int)) (l_v (Uy rfl rfl) (l_k D (Cg rfl (Om (by omega)) (Al (kk C ?_)))))))
  refine Ag rfl rfl (Ay (.int .u8 (a.toNat:Int)) (l_v (Cq (k':=1) a.toNat Bsm ⟨_,Ab Tryz.typeInfo4,rfl⟩ d (q:=(a.toNat:Int)) rfl rfl (by first|omega|(show _<10;omega)) (off':=a.toNat) (by omega)) (Cx rfl (Zx (j:=0) (f:=Value.bool) (i:=a.toNat) (bv:=true) ⟨_,Ab Tryz.typeInfo4,rfl⟩ rfl rfl rfl rfl (by rw[c];omega) ?_))))
  refine l_k J (Ag rfl rfl (l_v (Ah (v:=iV i) h) (l_v (Ga (((i+1):Nat):Int)) (Av (iV ((i+1):Nat)) (Ac ?_)))))
  refine⟨_,?_,(i+1),(b.set a.toNat true),rfl,rfl,rfl,rfl,g,d,rfl,(by omega),(by rw[k,y];exact Bhk (by omega)),(List.length_set.trans c),trivial⟩
  omega
 have K:=lZ4 e
 refine Bx (kk F ?_)
 refine w_q rfl rfl fun P E=>Arv (Afr (i:=0) (f:=Value.bool) (xs:=b) ⟨_,Bsm,rfl⟩ ⟨_,Ab Bsj,rfl⟩ d rfl c ?_)
 refine Cx rfl (Acb (i:=0) (f:=Value.bool) (xs:=b) (ys:=b) ⟨_,Ab Bsj,rfl⟩ d rfl (fun _=>rfl) rfl c c ?_)
 refine Av bT (l_k E (Aq (x _ _ _ _ _ [.agg (b.map Value.bool).toArray,bT] ⟨Qh ⟨_,Bsm,rfl⟩ ⟨_,Ab Bsj,rfl⟩ d (i:=0) rfl (by simp[c];try rfl),rfl,trivial⟩ Ghost.drop (rT (.tuple #[.agg (b.map Value.bool).toArray,bT]) ?_))))
 rw[k,show i=10 by omega]
theorem Adb{r:Nat}{c:UInt8} :CallsH (CX mn X) 211 #[pV r,.int .u8 (c.toNat:Int)] ρ ((r,oC (((dgT 10)).map Value.bool).toArray 282)::σ) (fun w ρ' σ'=>ρ'=ρ∧σ'=(r,oC ((dgT 10).map Value.bool).toArray 282)::σ∧w = .bool (Df c)):=by
 have hcl:=c.toNat_lt
 refine Bf 10 [4] Tryz.func211 rfl fun Q a h=>w_q rfl rfl fun e b=>Av bF (Arx rfl rfl b fun g d=>Ay (pV r) (Ay (.int .u8 (c.toNat:Int)) (l_v (Ck rfl) (l_v (Cq (k':=1) c.toNat Bsm ⟨_,Ab Tryz.typeInfo4,rfl⟩ rfl (q:=(c.toNat:Int)) rfl rfl (by omega) (off':=c.toNat) (by omega)) (Arv (Adu (j:=0) (f:=Value.bool) (i:=c.toNat) (bv:=Df c) ⟨_,Tryz.underlying4,rfl⟩ rfl rfl Bhi ?_))))))
 refine Av (.bool (Df c)) (l_k d (Aq (a (rT (.bool (Df c)) ?_))))
 rfl
theorem Bhe{r:Nat}{p:List UInt8}(hb:p.length≤60000):CallsH (CX mn X) 164 #[.string (bs p),pV r] ρ ((r,oC (((dgT 10)).map Value.bool).toArray 282)::σ) (fun w ρ' σ'=>ρ'=ρ∧σ'=(r,oC ((dgT 10).map Value.bool).toArray 282)::σ∧w = .string (bs (trL p))):=by
 refine Bf 16 [4] Tryz.func164 rfl fun Q u W=>w_q rfl rfl fun L D=>Av (.string (ByteArray.mk #[])) (Asa D fun O x=>Ao (Cc (fun mm ee dd ρ' σ'=>∃(s:List UInt8),(s.length)=mm∧[]=dd∧ρ=ρ'∧((r,oC (((dgT 10)).map Value.bool).toArray 282)::σ)=σ'∧ee 1=pV r∧ee 0=(.string (bs s))∧(trL s=trL p)∧(s.length≤p.length)∧True) (m:=_) ⟨p,rfl,rfl,rfl,rfl,rfl,rfl,rfl,Et _,trivial⟩ ?_))
 rintro Z V _ _ _ ⟨s,rfl,rfl,rfl,rfl,n,b,k,a0,_⟩
 refine Asb rfl rfl fun P R G H=>l_v (Ah (v:=.string (bs s)) b) (l_v (Ce Brs (p:=s) rfl) (l_v (Gl rfl rfl) (l_k H (Bb (t:=decide ((s.length:Int)>0)) rfl (fun e=>?_) (fun e=>?_)))))
 ·have K:=lZ3 e
  refine Al (kk G ?_)
  refine Ao (Asb rfl rfl fun T U I J=>l_v (Ah (v:=pV r) n) (l_v (Ah (v:=.string (bs s)) b) ?_))
  obtain⟨a,f⟩:=Nd (p:=s) (i:=0) (by omega)
  have Y:=a.toNat_lt
  refine l_v (Cr (p:=s) 0 a Brs rfl (q:=0) rfl rfl f) (Arv (Cm (vs:=[pV r,.int .u8 (a.toNat:Int)]) (Adb (r:=r) (c:=a)) Tryz.func211 rfl rfl ⟨rfl,rfl,trivial⟩ fun a1 a2 a3 B=>?_))
  obtain⟨g,j,C⟩:=B
  replace g:=g.symm;replace j:=j.symm;subst g j C
  refine l_v (Iy rfl) (l_k J (Bb (t:=!(Df a)) rfl (fun d=>?_) (fun d=>?_)))
  ·have hdl:((s.take s.length).drop 1).length<s.length:=by simp only[En,Ea];omega
   have y:=not_eq_t d
   have hdl:((s.take s.length).drop 1).length<s.length:=by simp only[En,Ea];omega
   refine Bx (kk x ?_)
   refine w_q rfl rfl fun M E=>l_v (Ah (v:=.string (bs s)) b) (Av (.string (bs s)) (l_k E (Aq (u (rT (.string (bs s)) ?_)))))
   rw[←k,Bga f (by simpa using y)]
  have hdl:((s.take s.length).drop 1).length<s.length:=by simp only[En,Ea];omega
  have z:=Ev d
  have hdl:((s.take s.length).drop 1).length<s.length:=by simp only[En,Ea];omega
  refine Al (kk I ?_)
  refine Ag rfl rfl (l_v (Ah (v:=.string (bs s)) b) (l_v (Lp (p:=s) (l:=1) (h:=s.length) Brs rfl (.inr ⟨_,rfl,rfl⟩) (.inl ⟨rfl,rfl⟩) (by omega) (by omega)) (Av (.string (bs ((s.take s.length).drop 1))) (Ac ?_))))
  refine⟨_,?_,((s.take s.length).drop 1),rfl,rfl,rfl,rfl,n,rfl,(by have:=Bfz f (by simpa using z);rw[Nn];exact this.trans k),(by simp only[En,Ea];omega),trivial⟩
  omega
 have K:=lZ4 e
 refine Bx (kk x ?_)
 refine w_q rfl rfl fun N F=>l_v (Ah (v:=.string (bs s)) b) (Av (.string (bs s)) (l_k F (Aq (u (rT (.string (bs s)) ?_)))))
 rw[←k,Bkc (by omega)]
theorem Bhf{r:Nat}{p:List UInt8}(hb:p.length≤60000):CallsH (CX mn X) 165 #[.string (bs p),pV r] ρ ((r,oC (((dgT 10)).map Value.bool).toArray 282)::σ) (fun w ρ' σ'=>ρ'=ρ∧σ'=(r,oC ((dgT 10).map Value.bool).toArray 282)::σ∧w = .string (bs (trR p))):=by
 refine Bf 22 [4] Tryz.func165 rfl fun Q u Y=>w_q rfl rfl fun M E=>Av (.string (ByteArray.mk #[])) (Asa E fun P x=>Ao (Cc (fun mm ee dd ρ' σ'=>∃(s:List UInt8),(s.length)=mm∧[]=dd∧ρ=ρ'∧((r,oC (((dgT 10)).map Value.bool).toArray 282)::σ)=σ'∧ee 1=pV r∧ee 0=(.string (bs s))∧(trR s=trR p)∧(s.length≤p.length)∧True) (m:=_) ⟨p,rfl,rfl,rfl,rfl,rfl,rfl,rfl,Et _,trivial⟩ ?_))
 rintro m3 W _ _ _ ⟨s,rfl,rfl,rfl,rfl,n,a,k,a0,_⟩
 refine Asb rfl rfl fun R T H I=>l_v (Ah (v:=.string (bs s)) a) (l_v (Ce Brs (p:=s) rfl) (l_v (Gl rfl rfl) (l_k I (Bb (t:=decide ((s.length:Int)>0)) rfl (fun e=>?_) (fun e=>?_)))))
 ·have L:=lZ3 e
  refine Al (kk H ?_)
  refine Ao (Asb rfl rfl fun U V J K=>l_v (Ah (v:=pV r) n) (l_v (Ah (v:=.string (bs s)) a) (l_v (Ah (v:=.string (bs s)) a) (l_v (Ce Brs (p:=s) rfl) (l_v (Ou rfl rfl (z:=(((s.length-1):Nat):Int)) (Bo (by omega) (by omega) (by omega))) ?_)))))
  obtain⟨b,f⟩:=Nd (p:=s) (i:=s.length-1) (by omega)
  have Z:=b.toNat_lt
  refine l_v (Cr (p:=s) (s.length-1) b Brs rfl (q:=(((s.length-1):Nat):Int)) rfl rfl f) (Arv (Cm (vs:=[pV r,.int .u8 (b.toNat:Int)]) (Adb (r:=r) (c:=b)) Tryz.func211 rfl rfl ⟨rfl,rfl,trivial⟩ fun a1 a2 a3 C=>?_))
  obtain⟨g,j,D⟩:=C
  replace g:=g.symm;replace j:=j.symm;subst g j D
  refine l_v (Iy rfl) (l_k K (Bb (t:=!(Df b)) rfl (fun d=>?_) (fun d=>?_)))
  ·have hdl:((s.take (s.length-1)).drop 0).length<s.length:=by simp only[En,Ea];omega
   have y:=not_eq_t d
   have hdl:((s.take (s.length-1)).drop 0).length<s.length:=by simp only[En,Ea];omega
   refine Bx (kk x ?_)
   refine w_q rfl rfl fun N F=>l_v (Ah (v:=.string (bs s)) a) (Av (.string (bs s)) (l_k F (Aq (u (rT (.string (bs s)) ?_)))))
   rw[←k,Bgc f (by simpa using y)]
  have hdl:((s.take (s.length-1)).drop 0).length<s.length:=by simp only[En,Ea];omega
  have B:=Ev d
  have hdl:((s.take (s.length-1)).drop 0).length<s.length:=by simp only[En,Ea];omega
  refine Al (kk J ?_)
  refine Ag rfl rfl (l_v (Ah (v:=.string (bs s)) a) (l_v (Ah (v:=.string (bs s)) a) (l_v (Ce Brs (p:=s) rfl) (l_v (Ou rfl rfl (z:=(((s.length-1):Nat):Int)) (Bo (by omega) (by omega) (by omega))) (l_v (Lp (p:=s) (l:=0) (h:=s.length-1) Brs rfl (.inl ⟨rfl,rfl⟩) (.inr ⟨_,rfl,rfl⟩) (by omega) (by omega)) (Av (.string (bs ((s.take (s.length-1)).drop 0))) (Ac ?_)))))))
  refine⟨_,?_,((s.take (s.length-1)).drop 0),rfl,rfl,rfl,rfl,n,rfl,((Bgb f (by simpa using B)).trans k),(by simp only[En,Ea];omega),trivial⟩
  omega
 have L:=lZ4 e
 refine Bx (kk x ?_)
 refine w_q rfl rfl fun O G=>l_v (Ah (v:=.string (bs s)) a) (Av (.string (bs s)) (l_k G (Aq (u (rT (.string (bs s)) ?_)))))
 rw[←k,Bkd (by omega)]
theorem Bbp{p:List UInt8}(hb:p.length≤60000):CallsH (CX mn X) 126 #[.string (bs p),.string (bs bZ0)] ρ σ (rP ρ σ (.string (bs (Qa p)))):=by
 refine Bf 43 [4] Tryz.func126 rfl fun Q h P=>w_q rfl rfl fun F u=>Av (.string (ByteArray.mk #[])) (Ary rfl rfl u fun I J y j=>Ay (.string (bs p)) (l_v (Us (p:=p) (q:=([]:List UInt8)) rfl rfl) (Ay (.bool (p==([]:List UInt8))) (Cn (p==([]:List UInt8)) (fun a=>?_) (fun a=>?_)))))
 ·have E:=Jr a
  refine Ap (gN rfl a) (Ap (gN rfl a) (l_v (Bt rfl a (v:=bT) rfl) (l_k j (Co rfl rfl (w_q rfl rfl fun K z=>Ay (.string (bs p)) (Av (.string (bs p)) (l_k z (Aq (h (rT (.string (bs p)) ?_))))))))))
  have hp:=eq_of_beq a
  subst hp;rfl
 have E:=Jq a
 refine l_M (.string (bs bZ0)) (gY rfl a) rfl (Aa (gY rfl a) (Us (p:=bZ0) (q:=([]:List UInt8)) rfl rfl) (l_v (Bn rfl a (v:=.bool ((bZ0)==([]:List UInt8))) rfl) (l_k j (Cg rfl (by decide) (Al (kk y ?_))))))
 refine Asb rfl rfl fun L M B C=>Ay (.string (bs bZ0)) (l_v (Ce Brs (p:=bZ0) rfl) (l_v (Ek rfl rfl) (Ay bF (Ap (gN rfl rfl) (Ap (gN rfl rfl) (Ap (gN rfl rfl) (l_v (Bn rfl rfl (v:=bF) rfl) (l_k C (Cg rfl rfl (Al (kk B ?_)))))))))))
 refine Asb rfl rfl fun N O R D=>Ay (.string (bs bZ0)) (Arv (Ii Ayi Tryz.func163 ?_))
 refine Ay (.tuple #[.agg ((dgT 10).map Value.bool).toArray,bT]) (l_v (Rf (.agg ((dgT 10).map Value.bool).toArray)) (l_v (Rf bT) (Arv (Ct Bgj fun b=>?_))))
 refine Cx rfl (Acb (i:=0) (f:=Value.bool) (xs:=List.replicate 256 false) (ys:=dgT 10) ⟨_,Ab Bsj,rfl⟩ rfl rfl (fun _=>rfl) rfl Bhj Aqe ?_)
 refine Av bT (Arx rfl rfl D fun G w=>Ay bT (l_k w (Co rfl rfl (w_q rfl rfl fun H x=>Ay (.string (bs p)) (Arv (Cm (vs:=[.string (bs p),pV b]) (Bhf (r:=b) (p:=p) (by omega)) Tryz.func165 rfl rfl ⟨rfl,rfl,trivial⟩ fun T V Y k=>?_))))))
 obtain⟨c,e,n⟩:=k
 replace c:=c.symm;replace e:=e.symm;subst c e n
 refine Arv (Cm (vs:=[.string (bs (trR p)),pV b]) (Bhe (r:=b) (p:=trR p) (Mm Bol hb)) Tryz.func164 rfl rfl ⟨rfl,rfl,trivial⟩ fun U W Z m=>?_)
 obtain⟨d,g,t⟩:=m
 replace d:=d.symm;replace g:=g.symm;subst d g t
 refine Av (.string (bs (trL (trR p)))) (l_k x (Aj Ghost.drop (Aq (h (rT (.string (bs (trL (trR p)))) ?_)))))
 rfl
end
section
open Go
section
variable{P:Program}{ρ:Ro}{e:Env}{ty t t':TypeId}{x:Operand}{v:Value}{tt:TypeId}
theorem Aph{ρ':Ro}{σ:Own}{ms:Array (String×TypeId)}(hT:P.underlying t=some (.interface ms)){w:Value}{b:Bool}(hb:(w = .nilIface∧b=true)∨∃tt v,w = .iface tt v∧b=false){Q:Bool→Own→Prop}(h:Q b σ):wpS P ρ' (Op.equal t w .nilIface) σ Q:=by
 show wpS P ρ' ((underlying t).bind _) σ Q
 rw[Ad]
 refine Az hT ?_
 rcases hb with⟨rfl,rfl⟩|⟨tt,v,rfl,rfl⟩<;>exact h
theorem Akm{ms:Array (String×TypeId)}{w:Value}{b:Bool}(hT:P.underlying t=some (.interface ms))(hb:(w = .nilIface∧b=true)∨∃tt v,w = .iface tt v∧b=false)(hx:Af e x=w):Yld P ρ e (.binOp .eql t x (.const .nilIface) t') ty (.bool b) :=
 Mt (s:=(do eqGuard .eql t x (.const .nilIface) (Af e x) .nilIface;binOp .eql t (Af e x) .nilIface)) (fun _ _ _ _=>rfl) fun ρ' σ _=>by
  rw[hx]
  have hg:eqGuard .eql t x (.const .nilIface) w .nilIface=pure ():=by
   rcases hb with⟨rfl,-⟩|⟨tt,v,rfl,-⟩
   ·unfold eqGuard;simp
   ·rfl
  rw[hg]
  have a:binOp .eql t w .nilIface=(Op.equal t w .nilIface).bind fun b=>Sem.pure (.bool b):=by
   rcases hb with⟨rfl,-⟩|⟨tt,v,rfl,-⟩<;>rfl
  show wpS P ρ' (binOp .eql t w .nilIface) σ _
  rw[a,Ad]
  exact Aph hT hb ⟨rfl,rfl⟩
theorem Bav{ms:Array (String×TypeId)}{w:Value}{b:Bool}(hT:P.underlying t=some (.interface ms))(hb:(w = .nilIface∧b=true)∨∃tt v,w = .iface tt v∧b=false)(hx:Af e x=w):Yld P ρ e (.binOp .neq t x (.const .nilIface) t') ty (.bool (!b)) :=
 Mt (s:=(do eqGuard .neq t x (.const .nilIface) (Af e x) .nilIface;binOp .neq t (Af e x) .nilIface)) (fun _ _ _ _=>rfl) fun ρ' σ _=>by
  rw[hx]
  have hg:eqGuard .neq t x (.const .nilIface) w .nilIface=pure ():=by
   rcases hb with⟨rfl,-⟩|⟨tt,v,rfl,-⟩
   ·unfold eqGuard;simp
   ·rfl
  rw[hg]
  have a:binOp .neq t w .nilIface=(Op.equal t w .nilIface).bind fun b=>Sem.pure (.bool (!b)):=by
   rcases hb with⟨rfl,-⟩|⟨tt,v,rfl,-⟩<;>rfl
  show wpS P ρ' (binOp .neq t w .nilIface) σ _
  rw[a,Ad]
  exact Aph hT hb ⟨rfl,rfl⟩
end
end
section
open Go
section
variable{mn:Bool}{X:Frame→List Frame→Ro→Own→Cy→Prop}{b:FB}{n:Nat}{e:Env}{ds:List Deferred}{ρ:Ro}{σ:Own}{K:Value→List Deferred→Ro→Own→Prop}{rd:Option Nat}{dd:Option Tmp}
variable{ty:TypeId}{pos:String}{af:Array Edge}{g:Option (Nat×Bool)}{x y z:Operand}{v v2 p:Value}{t t':TypeId}
theorem Blg{P:Program}{e:Env}{ρ:Ro}{ty t:TypeId}{x:Operand}{k:IntKind}{p z:Int}(hx:Af e x = .int k p)(hz:k.wrap (0-p)=z):Yld P ρ e (.unOp .neg t x) ty (.int k z) :=
 Mt (s:=Op.unary .neg (Af e x)) (fun _ _ _ _=>rfl) fun ρ' σ _=>by rw[hx];subst hz;exact⟨rfl,rfl⟩
end
end
section
open Go
variable{mn:Bool}{X:Frame→List Frame→Ro→Own→Cy→Prop}{ρ:Ro}{σ:Own}
theorem Bgv{s:List UInt8}(hz:Er s=true):CallsH (CX mn X) 216 #[.string (bs s)] ρ σ (fun w ρ' σ'=>Ro.le ρ ρ'∧σ'=σ∧w = .tuple #[iV (Jt s),.nilIface]):=by
 obtain⟨W,Y,f⟩:=Aja hz
 obtain⟨cj,ck⟩:=Bbf (s:=s)
 refine Bf 77 [2,3] Tryz.func216 rfl fun Q Z cg=>w_q rfl rfl fun K1 k1=>Av (iV 0) (Av .nilIface (Arx rfl rfl k1 fun K2 k2=>Ay (.string (bs s)) (l_v (Ce Brs (p:=s) rfl) (Av (iV (s.length:Int)) (Ary rfl rfl k2 fun K3 K4 k3 k4=>Ay bF (Ap (gN rfl rfl) (Ap (gN rfl rfl) (Ap (gN rfl rfl) (Ap (Jf rfl rfl rfl) (Ap (Jf rfl rfl rfl) (Ap (gN rfl rfl) (l_v (Bn rfl rfl (v:=bF) rfl) (Ay bF (l_M bT (gY rfl rfl) rfl (l_M (iV (s.length:Int)) (gY rfl rfl) rfl (Aa (gY rfl rfl) (Da rfl rfl) (l_M (.bool (decide (0<(s.length:Int)))) (gY rfl rfl) rfl (l_M (iV (s.length:Int)) (gY rfl (Lg (by omega))) rfl (Aa (gY rfl (Lg (by omega))) (Da rfl rfl) (Aa (gY rfl rfl) (Bt rfl (Lg (by omega)) (v:=.bool (decide ((s.length:Int)<19))) rfl) (Aa (gY rfl rfl) (Bt rfl rfl (v:=.bool (decide ((s.length:Int)<19))) rfl) (l_v (Bn rfl rfl (v:=.bool (decide ((s.length:Int)<19))) rfl) (l_k k4 (Co rfl (Lg (by omega)) (w_q rfl rfl fun K5 k5=>Ay (.string (bs s)) (Av (.string (bs s)) (Ary rfl rfl k5 fun K6 K7 k6 k7=>Ay (.string (bs s)) ?_)))))))))))))))))))))))))))
 obtain⟨g,j⟩:=Nd (p:=s) (i:=0) (by omega)
 have cl:=g.toNat_lt
 have F:=Bnb hz j
 refine l_v (Cr (p:=s) 0 g Brs rfl (q:=0) rfl rfl j) (l_v (Ek rfl rfl) (Ay (.bool ((g.toNat:Int)==45)) (Cn ((g.toNat:Int)==45) (fun a=>?_) (fun a=>?_))))
 ·have hm:Eo s=true:=by
   rcases F with⟨_,h⟩|⟨h,_,_⟩
   ·exact h
   ·exfalso;have:=Jr a;omega
  have hD:Cf s=((s.take s.length).drop 1):=(Aka hm).symm
  have f:=f;rw[hD]at f;have G:=W;have H:=Y;rw[hD]at G H
  have q9:=Jr a
  refine Ap (gN rfl a) (Ap (gN rfl a) (Ap (gN rfl a) (l_v (Bt rfl a (v:=bT) rfl) (l_k k7 (Co rfl rfl (w_q rfl rfl fun b8 a8=>Ay (.string (bs s)) (l_v (Lp (p:=s) (l:=1) (h:=s.length) Brs rfl (.inr ⟨_,rfl,rfl⟩) (.inl ⟨rfl,rfl⟩) (by omega) (by omega)) (Av (.string (bs ((s.take s.length).drop 1))) (Arx rfl rfl a8 fun ba a9=>Ay (.string (bs ((s.take s.length).drop 1))) (l_v (Ce Brs (p:=(s.take s.length).drop 1) rfl) (l_v (Da rfl rfl) (l_k a9 (Cg rfl (Om (by omega)) (Al (kk k6 ?_)))))))))))))))
  refine w_q rfl rfl fun bb aa=>Av (iV 0) (Ary rfl rfl aa fun bc bd ab ac=>Ay (.string (bs ((s.take s.length).drop 1))) (Arv (Amd (s:=bs ((s.take s.length).drop 1)) Brs Bru Brv rfl (by rw[Gp];omega) fun a0 K c4 cq c9 a4 a6=>?_)))
  refine Alh a4 a6 (by rw[Gp];omega) fun a2 b2 k=>?_
  replace k:Val a2 (.slice (some ⟨a0,0,none⟩) (bs ((s.take s.length).drop 1)).size K) (((s.take s.length).drop 1)):=k
  have cb:=Val.len k
  refine l_v (Ci (el:=5) Bru rfl k) (Ay (iV 0) (l_k ac (Ao (Cc (fun mm ee dd ρ' σ'=>∃(i:Nat) (n:Nat),((((s.take s.length).drop 1)).length-i)=mm∧[]=dd∧a2=ρ'∧σ=σ'∧ee 5=(.string (bs s))∧ee 47=(.slice (some ⟨a0,0,none⟩) (bs ((s.take s.length).drop 1)).size K)∧ee 48=(iV (((((s.take s.length).drop 1)).length:Nat):Int))∧ee 6=iV n∧ee 49=iV i∧(i≤(((s.take s.length).drop 1)).length)∧(n=Ri ((((s.take s.length).drop 1)).take i))∧True) (m:=_) ⟨0,0,rfl,rfl,rfl,rfl,rfl,rfl,rfl,rfl,rfl,Mq _,rfl,trivial⟩ ?_))))
  rintro cm c6 _ _ _ ⟨i,n,rfl,rfl,rfl,rfl,O,M,N,P,B,co,I,_⟩
  have ce:n<1000000000:=by rw[I];have:=Abd (n:=9) (d:=(((s.take s.length).drop 1)).take i) (Hs.2 fun c hc=>Hs.1 f c (List.mem_of_mem_take hc)) (by rw[Ea];omega);omega
  refine w_q rfl rfl fun be ad=>l_v (Da B N) (Asa ad fun bf ae=>Bb (t:=decide ((i:Int)<(((((s.take s.length).drop 1)).length:Nat):Int))) rfl (fun x=>?_) (fun x=>?_))
  ·have b4:=lZ3 x
   refine Al (kk ae ?_)
   refine Ai fun bg af=>Ao (w_q rfl rfl fun bh ag=>?_)
   obtain⟨b,D⟩:=Ed (xs:=(s.take s.length).drop 1) (i:=i) (by omega)
   have ch:=Alj (Baz f D)
   refine Arw (Ch i Bru ty5 M k (q:=(i:Int)) B rfl D) fun cs b6=>l_v (Aaf ty5 rfl b6) (Av (.int .u8 (b.toNat:Int)) (Arx rfl rfl ag fun bi ah=>Ay (.int .u8 (b.toNat:Int)) (l_v (Ou rfl rfl (z:=(((b.toNat-48):Nat):Int)) ((Anq (by omega) (by omega)).trans (by omega))) (Av (.int .u8 (((b.toNat-48):Nat):Int)) (Ary rfl rfl ah fun bj bk ai aj=>Ay (.int .u8 (((b.toNat-48):Nat):Int)) (l_v (Gl rfl rfl) (l_k aj (Cg rfl (Om (by omega)) (Al (kk ai ?_))))))))))
   refine Ag rfl rfl (l_v (Ah (v:=iV n) P) (l_v (Wq rfl rfl (z:=(((n*10):Nat):Int)) wrE) (Ay (.int .u8 (((b.toNat-48):Nat):Int)) (l_v (Acf (p:=(((b.toNat-48):Nat):Int)) (z:=(((b.toNat-48):Nat):Int)) Brv Brw rfl wrR) (l_v (Ga ((((n*10)+(b.toNat-48)):Nat):Int)) (Av (iV ((((n*10)+(b.toNat-48)):Nat):Int)) (l_k af (Ag rfl rfl (l_v (Br B rfl (z:=(((i+1):Nat):Int)) wrE) (Ay (iV ((i+1):Nat)) (Ac ?_)))))))))))
   refine⟨_,?_,(i+1),((n*10)+(b.toNat-48)),rfl,rfl,rfl,rfl,O,M,N,rfl,rfl,(by omega),(by rw[Adm D,I];omega),trivial⟩
   omega
  have b4:=lZ4 x
  refine Bx (kk ab ?_)
  refine Asb rfl rfl fun bl bm ak al=>l_v (Ah (v:=.string (bs s)) O) (l_v (Cr (p:=s) 0 g Brs rfl (q:=0) rfl rfl j) (l_v (Ek rfl rfl) (l_k al (Co rfl a (Ag rfl rfl (l_v (Ah (v:=iV n) P) (l_v (Blg (p:=(n:Int)) (z:=-(n:Int)) rfl (Bo (by omega) (by omega) (by omega))) (Av (iV (-(n:Int))) (Arx rfl rfl ak fun bn am=>Ay (iV (-(n:Int))) (Av (iV (-(n:Int))) (Av .nilIface (l_k am (Aq (Z ⟨b2,rfl,Eq.trans (Mp (r:=2) (r':=3) (rs:=[]) (v:=iV (-(n:Int))) (v':=.nilIface) (vs:=[]) ⟨rfl,rfl,trivial⟩) ?_⟩))))))))))))))
  have hi:i=(((s.take s.length).drop 1)).length:=by omega
  rw[Jt,hm,hD]
  have:=I
  rw[hi,Nn]at this
  rw[this];rfl
 have hm:Eo s=false:=by
  rcases F with⟨h,_⟩|⟨_,_,h⟩
  ·exact absurd h (Rh (n:=45) (Jq a))
  ·exact h
 have hD:Cf s=s:=by unfold Cf;rw[hm];rfl
 have cd:48≤g.toNat:=by
  rcases F with⟨h,_⟩|⟨h,_,_⟩
  ·exact absurd h (Rh (n:=45) (Jq a))
  ·exact h
 have f:=f;rw[hD]at f;have G:=W;have H:=Y;rw[hD]at G H
 have q9:=Jq a
 refine l_M (.string (bs s)) (gY rfl a) rfl (Aa (gY rfl a) (Cr (p:=s) 0 g Brs rfl (q:=0) rfl rfl j) (Aa (gY rfl a) (Ek rfl rfl) (l_v (Bn rfl a (v:=.bool ((g.toNat:Int)==43)) rfl) (l_k k7 (Cg rfl (beq_eq_false_iff_ne.2 (by omega)) (Al (kk k6 ?_)))))))
 refine w_q rfl rfl fun bo an=>Av (iV 0) (Ary rfl rfl an fun bp bq ao ap=>Ay (.string (bs s)) (Arv (Amd (s:=bs s) Brs Bru Brv rfl (by rw[Gp];omega) fun a1 L c5 cr ca a5 a7=>?_)))
 refine Alh a5 a7 (by rw[Gp];omega) fun a3 b3 u=>?_
 replace u:Val a3 (.slice (some ⟨a1,0,none⟩) (bs s).size L) s:=u
 have cc:=Val.len u
 refine l_v (Ci (el:=5) Bru rfl u) (Ay (iV 0) (l_k ap (Ao (Cc (fun mm ee dd ρ' σ'=>∃(i:Nat) (n:Nat),(s.length-i)=mm∧[]=dd∧a3=ρ'∧σ=σ'∧ee 5=(.string (bs s))∧ee 47=(.slice (some ⟨a1,0,none⟩) (bs s).size L)∧ee 48=(iV (s.length:Int))∧ee 6=iV n∧ee 49=iV i∧(i≤s.length)∧(n=Ri (s.take i))∧True) (m:=_) ⟨0,0,rfl,rfl,rfl,rfl,rfl,rfl,rfl,rfl,rfl,Mq _,rfl,trivial⟩ ?_))))
 rintro cn c7 _ _ _ ⟨i,n,rfl,rfl,rfl,rfl,U,R,T,V,C,cp,J,_⟩
 have cf:n<1000000000:=by rw[J];have:=Abd (n:=9) (d:=s.take i) (Hs.2 fun c hc=>Hs.1 f c (List.mem_of_mem_take hc)) (by rw[Ea];omega);omega
 refine w_q rfl rfl fun br aq=>l_v (Da C T) (Asa aq fun bt ar=>Bb (t:=decide ((i:Int)<(s.length:Int))) rfl (fun y=>?_) (fun y=>?_))
 ·have b5:=lZ3 y
  refine Al (kk ar ?_)
  refine Ai fun bu au=>Ao (w_q rfl rfl fun bv av=>?_)
  obtain⟨e,E⟩:=Ed (xs:=s) (i:=i) (by omega)
  have ci:=Alj (Baz f E)
  refine Arw (Ch i Bru ty5 R u (q:=(i:Int)) C rfl E) fun ct b7=>l_v (Aaf ty5 rfl b7) (Av (.int .u8 (e.toNat:Int)) (Arx rfl rfl av fun bx aw=>Ay (.int .u8 (e.toNat:Int)) (l_v (Ou rfl rfl (z:=(((e.toNat-48):Nat):Int)) ((Anq (by omega) (by omega)).trans (by omega))) (Av (.int .u8 (((e.toNat-48):Nat):Int)) (Ary rfl rfl aw fun bz c0 ax ay=>Ay (.int .u8 (((e.toNat-48):Nat):Int)) (l_v (Gl rfl rfl) (l_k ay (Cg rfl (Om (by omega)) (Al (kk ax ?_))))))))))
  refine Ag rfl rfl (l_v (Ah (v:=iV n) V) (l_v (Wq rfl rfl (z:=(((n*10):Nat):Int)) wrE) (Ay (.int .u8 (((e.toNat-48):Nat):Int)) (l_v (Acf (p:=(((e.toNat-48):Nat):Int)) (z:=(((e.toNat-48):Nat):Int)) Brv Brw rfl wrR) (l_v (Ga ((((n*10)+(e.toNat-48)):Nat):Int)) (Av (iV ((((n*10)+(e.toNat-48)):Nat):Int)) (l_k au (Ag rfl rfl (l_v (Br C rfl (z:=(((i+1):Nat):Int)) wrE) (Ay (iV ((i+1):Nat)) (Ac ?_)))))))))))
  refine⟨_,?_,(i+1),((n*10)+(e.toNat-48)),rfl,rfl,rfl,rfl,U,R,T,rfl,rfl,(by omega),(by rw[Adm E,J];omega),trivial⟩
  omega
 have b5:=lZ4 y
 refine Bx (kk ao ?_)
 refine Asb rfl rfl fun c1 c2 az b0=>l_v (Ah (v:=.string (bs s)) U) (l_v (Cr (p:=s) 0 g Brs rfl (q:=0) rfl rfl j) (l_v (Ek rfl rfl) (l_k b0 (Cg rfl a (Al (kk az ?_))))))
 refine w_q rfl rfl fun c3 b1=>l_v (Ah (v:=iV n) V) (Av (iV n) (Av .nilIface (l_k b1 (Aq (Z ⟨b3,rfl,Eq.trans (Mp (r:=2) (r':=3) (rs:=[]) (v:=iV n) (v':=.nilIface) (vs:=[]) ⟨rfl,rfl,trivial⟩) ?_⟩)))))
 have hi:i=s.length:=by omega
 rw[Jt,hm,hD]
 have:=J
 rw[hi,Nn]at this
 rw[this];rfl
theorem Bbj{s:List UInt8}(hz:Er s=true):CallsH (CX mn X) 169 #[.string (bs s)] ρ σ (fun w ρ' σ'=>Ro.le ρ ρ'∧σ'=σ∧w = .tuple #[iV (Jt s),.nilIface]):=by
 refine Bf 18 [2,3] Tryz.func169 rfl fun Q d u=>w_q rfl rfl fun m f=>Av (iV 0) (Av .nilIface (Arx rfl rfl f fun n g=>Ay (.string (bs s)) (Arv (Cm (vs:=[.string (bs s)]) (Bgv (s:=s) hz) Tryz.func216 rfl rfl ⟨rfl,trivial⟩ fun x y z c=>?_))))
 obtain⟨k,a,e⟩:=c
 replace a:=a.symm;subst a e
 refine Ay (.tuple #[iV (Jt s),.nilIface]) (l_v (Rf (iV (Jt s))) (l_v (Rf .nilIface) (Av (iV (Jt s)) (Av .nilIface (Ary rfl rfl g fun p q h i=>Ay .nilIface (l_v (Bav (w:=.nilIface) (b:=true) Tryz.underlying92 (.inl ⟨rfl,rfl⟩) rfl) (l_k i (Cg rfl rfl (Al (kk h ?_))))))))))
 refine w_q rfl rfl fun t j=>Ay (iV (Jt s)) (Av (iV (Jt s)) (Av .nilIface (l_k j (Aq (d ⟨k,rfl,Mp (r:=2) (r':=3) (rs:=[]) (v:=iV (Jt s)) (v':=.nilIface) (vs:=[]) ⟨rfl,rfl,trivial⟩⟩)))))
end
section
open Go
def Bct:TypeDesc→Bool
 | .interface _=>true
 | _=>false
section
variable{P:Program}{ρ:Ro}{e:Env}{ty t t':TypeId}{x y:Operand}{v:Value}
theorem Auq{d:TypeDesc}(hT:P.underlying t=some d)(hd:Bct d=false)(hx:Af e x=v):Yld P ρ e (.makeInterface t x) ty (.iface t v) :=
 Mt (s:=Instr.makeInterface t (Af e x)) (fun _ _ _ _=>rfl) fun ρ' σ _=>by
 rw[hx]
 show wpS P ρ' ((underlying t).bind _) σ _
 rw[Ad]
 refine Az hT ?_
 cases d<;>first|exact⟨rfl,rfl⟩|cases hd
theorem Bau{d:TypeDesc}(hT:P.underlying t'=some d)(hd:Bct d=false)(hx:Af e x = .iface t' v):Yld P ρ e (.typeAssert x t t' true) ty (.tuple #[v,.bool true]) :=
 Mt (s:=Instr.typeAssert (Af e x) t t' true) (fun _ _ _ _=>rfl) fun ρ' σ _=>by
 rw[hx]
 show wpS P ρ' ((underlying t').bind _) σ _
 rw[Ad]
 refine Az hT ?_
 cases d<;>first|(simp only[if_true];exact⟨rfl,rfl⟩)|cases hd
end
section
variable{C:Ctx}{e:Env}{ds:List Deferred}{ρ:Ro}{σ:Own}{K:Value→List Deferred→Ro→Own→Prop}{rd:Option Nat}{dd:Option Tmp}
variable{ty:TypeId}{pos:String}{af:Array Edge}{g:Option (Nat×Bool)}{x:Operand}{t:TypeId}{v v':Value}
end
end
section
open Go
theorem Tv:∀{s acc:List UInt8},(Md acc s).length≤s.length+(if acc=[] then 0 else 1)∧∀w∈Md acc s,w.length≤acc.length+s.length
 | [],acc=>by
  show (if acc=[] then [] else [acc]).length≤_∧∀w∈(if acc=[] then [] else [acc]),_
  by_cases h:acc=[]
  ·rw[if_pos h];exact⟨by simp,fun w hw=>by cases hw⟩
  ·rw[if_neg h,if_neg h];exact⟨by simp,fun w hw=>by rw[Lc.1 hw];simp⟩
 | x::s,acc=>by
  show (if x=10 then acc::Md [] s else Md (acc++[x]) s).length≤_∧∀w∈(if x=10 then acc::Md [] s else Md (acc++[x]) s),_
  by_cases h:x=10
  ·rw[if_pos h]
   obtain⟨h1,h2⟩:=Tv (s:=s) (acc:=[])
   rw[if_pos rfl]at h1
   refine⟨by rw[lZ2,lZ2];omega,fun w hw=>?_⟩
   rcases lZ8.1 hw with rfl|hw
   ·omega
   ·have:=h2 w hw;simp only[Dy,lZ2]at *;omega
  ·rw[if_neg h]
   obtain⟨h1,h2⟩:=Tv (s:=s) (acc:=acc++[x])
   rw[if_neg (by simp)]at h1
   refine⟨by rw[lZ2];omega,fun w hw=>?_⟩
   have:=h2 w hw
   simp only[lZ1,lZ2,Dy]at *;omega
theorem Zj:∀{s acc:List UInt8},(Ef 32 acc s).length≤s.length+1∧∀w∈Ef 32 acc s,w.length≤acc.length+s.length
 | [],acc=>⟨by simp[Ef],fun w hw=>by rw[Lc.1 (show w∈[acc] from hw)];simp⟩
 | x::s,acc=>by
  show (if x=32 then acc::Ef 32 [] s else Ef 32 (acc++[x]) s).length≤_∧∀w∈(if x=32 then acc::Ef 32 [] s else Ef 32 (acc++[x]) s),_
  by_cases h:x=32
  ·rw[if_pos h]
   obtain⟨h1,h2⟩:=Zj (s:=s) (acc:=[])
   refine⟨by rw[lZ2,lZ2];omega,fun w hw=>?_⟩
   rcases lZ8.1 hw with rfl|hw
   ·omega
   ·have:=h2 w hw;simp only[Dy,lZ2]at *;omega
  ·rw[if_neg h]
   obtain⟨h1,h2⟩:=Zj (s:=s) (acc:=acc++[x])
   refine⟨by rw[lZ2];omega,fun w hw=>?_⟩
   have:=h2 w hw
   simp only[lZ1,lZ2,Dy]at *;omega
theorem Bis{t:List UInt8}:(Fg t).length≤t.length:=by have:=(Tv (s:=t) (acc:=[])).1;rw[if_pos rfl]at this;exact this
theorem Bms{t:List UInt8}{i:Nat}{a:ByteArray}(h:(bw (Fg t))[i]?=some a):(Fg t)[i]?=some a.data.toList∧a.data.toList.length≤t.length:=by
 have e:(Fg t)[i]?=some a.data.toList:=by
  unfold bw at h
  rw[Oj]at h
  cases hl:(Fg t)[i]? with
  | none=>rw[hl]at h;cases h
  | some x=>rw[hl]at h;rw[←Option.some.inj h];rfl
 refine⟨e,?_⟩
 have:=(Tv (s:=t) (acc:=[])).2 _ (lZ6 (show (Md [] t)[i]?=_ from e))
 simp at this
 simpa using this
theorem Bkg{s u:List UInt8}{r:List ByteArray}(h:Cu s=u::wl r):r.length≤s.length∧u.length≤s.length∧∀w∈r,w.data.toList.length≤s.length:=by
 obtain⟨b,a⟩:=Zj (s:=s) (acc:=[])
 have c:Ef 32 [] s=u::wl r:=h
 rw[c]at b a
 rw[lZ2,Bon]at b
 refine⟨by omega,by have:=a u mC;simpa using this,fun w hw=>?_⟩
 have:=a w.data.toList (lZ0 _ (Iu.2 ⟨w,hw,rfl⟩))
 simpa using this
theorem Bbo{mn:Bool}{X:Frame→List Frame→Ro→Own→Cy→Prop}{ρ:Ro}{σ:Own}{p:List UInt8}{L:List ByteArray}(hL:L=bw (Cu p))(hb:p.length≤60000):CallsH (CX mn X) 118 #[.string (bs p),.string (bs ([32]:List UInt8))] ρ σ (fun w ρ' σ'=>Ro.le ρ ρ'∧σ'=σ∧Val ρ' w (L:List ByteArray)):=by
 rw[hL];exact Bhb hb
end
section
open Go
def ObjsO(τ:Own):Prop:=∀x∈τ,∃r o,x=(r,Res.obj o)
theorem Xc{r:Nat}{o:Obj}:ObjsO [(r,Res.obj o)]:=fun x hx=>by rw[Lc.1 hx];exact⟨_,_,rfl⟩
theorem ObjsO.add{τ:Own}{a b:Nat}{o o':Obj}(h:ObjsO τ):ObjsO (τ++[(a,Res.obj o),(b,Res.obj o')]):=fun x hx=>by
 rcases Fb.1 hx with h1|h1
 ·exact h x h1
 ·rcases lZ8.1 h1 with rfl|h2
  ·exact⟨_,_,rfl⟩
  ·rw[Lc.1 h2];exact⟨_,_,rfl⟩
theorem Aso{pfx τ:Own}{a b:Nat×Res}:(pfx++[a,b]++τ)[pfx.length]?=some a:=by simp
theorem Axe{pfx τ:Own}{a b a':Nat×Res}:(pfx++[a,b]++τ).set pfx.length a'=pfx++[a',b]++τ:=by
 rw[lZ9,List.set_append_right _ _ (Et _),Aek,lZ9];rfl
theorem Akr{pfx τ:Own}{a b:Nat×Res}:pfx++a::b::τ=pfx++[a,b]++τ:=by simp
section
variable{mn:Bool}{X:Frame→List Frame→Ro→Own→Cy→Prop}{b:FB}{n:Nat}{e:Env}{ds:List Deferred}{ρ:Ro}{σ:Own}
end
def Bp(acc:List UInt8):List UInt8→List (List UInt8)
 | []=>if acc=[] then [] else [acc]
 | x::r=>if x=10 then (acc++[10])::Bp [] r else Bp (acc++[x]) r
theorem Aol{acc:List UInt8}:Bc (acc++[10])=acc:=by
 unfold Bc
 have e:(acc++[10]).drop ((acc++[10]).length-1)=[10]:=by simp
 rw[e];simp
theorem Bhg{acc:List UInt8}(h:∀x∈acc,x≠10):Bc acc=acc:=by
 unfold Bc
 rw[if_neg]
 intro hh
 have e:=eq_of_beq hh
 have:(10:UInt8)∈acc:=List.mem_of_mem_drop (i:=acc.length-1) (by rw[e];simp)
 exact h 10 this rfl
theorem Qi:∀{s acc:List UInt8},(∀x∈acc,x≠10)→(Bp acc s).map Bc=Md acc s
 | [],acc,h=>by
  unfold Bp Md
  split
  ·rfl
  ·rw[Hd,Bhg h];rfl
 | x::r,acc,h=>by
  unfold Bp Md
  split
  ·rw[Hd,Aol,Qi (fun _ h=>by cases h)]
  ·next hx =>
   exact Qi fun y hy=>by
    rcases Fb.1 hy with h1|h1
    ·exact h y h1
    ·rw[Lc.1 h1];exact hx
theorem Aiv:∀{s acc:List UInt8},(∀x∈s,x≠10)→Bp acc s=if acc++s=[] then [] else [acc++s]
 | [],acc,_=>by unfold Bp;rw[Lz]
 | x::r,acc,h=>by
  unfold Bp
  rw[if_neg (h x mC),Aiv fun y hy=>h y (lZ0 _ hy)]
  simp
theorem Aiu:∀{m:Nat} {s acc:List UInt8},s[m]?=some 10→(∀j,j<m→s[j]?≠some 10)→Bp acc s=(acc++s.take (m+1))::Bp [] (s.drop (m+1))
 | _,[],_,h,_=>by cases h
 | 0,x::r,acc,h,_=>by
  obtain rfl:x=10:=by simpa using h
  conv=>lhs;unfold Bp
  rw[if_pos rfl];rfl
 | m+1,x::r,acc,h,hj=>by
  have hx:x≠10:=fun e=>hj 0 (by omega) (by rw[e];rfl)
  conv=>lhs;unfold Bp
  rw[if_neg hx,Aiu (m:=m) (s:=r) (by simpa using h) (fun j hjm=>by have:=hj (j+1) (by omega);simpa using this)]
  simp
theorem Aqm{s:List UInt8}{m:Nat}(h:s[m]?=some 10)(hj:∀j,j<m→s[j]?≠some 10):Bp [] s=((s.take (m+1)).drop 0)::Bp [] ((s.take s.length).drop (m+1)):=by
 rw[Aiu h hj,Nn,Pj,Vi]
theorem Aql{s:List UInt8}(h:∀x∈s,x≠10)(hs:0<s.length):Bp [] s=[s]:=by
 rw[Aiv h,Pj,if_neg]
 intro e;rw[e]at hs;cases hs
theorem Yz:∀{s acc:List UInt8},∀w∈Bp acc s,w.length≤acc.length+s.length
 | [],acc,w,hw=>by
  unfold Bp at hw
  split at hw
  ·cases hw
  ·rw[Lc.1 hw];simp
 | x::r,acc,w,hw=>by
  unfold Bp at hw
  split at hw
  ·rcases lZ8.1 hw with rfl|h1
   ·simp
   ·have:=Yz w h1;simp only[Dy,lZ2]at *;omega
  ·have:=Yz w hw;simp only[lZ1,lZ2,Dy]at *;omega
end
section
open Go
theorem Azl{s:List UInt8}(h:decide (Mk 10 s≥0)=true):∃m:Nat,Mk 10 s=(m:Int)∧m<s.length∧Bp [] s=((s.take (m+1)).drop 0)::Bp [] ((s.take s.length).drop (m+1)):=by
 rcases Tq (c:=10) (p:=s) with⟨m,a,b,d,e⟩|⟨a,_⟩
 ·exact⟨m,a,b,Aqm d e⟩
 ·have:=lZ3 h;omega
theorem Azk{s:List UInt8}(h:decide (Mk 10 s≥0)=false)(hs:0<s.length):Bp [] s=[s]:=by
 rcases Tq (c:=10) (p:=s) with⟨m,a,b,d,e⟩|⟨_,a⟩
 ·have:=lZ4 h;omega
 ·exact Aql a hs
theorem Bbn{mn:Bool}{X:Frame→List Frame→Ro→Own→Cy→Prop}{ρ:Ro}{σ:Own}{t:List UInt8} :CallsH (CX mn X) 35 #[.string (bs t)] ρ σ (fun w ρ' σ'=>ρ'=ρ∧∃k:Nat,w = .func (.func 68) #[] #[pV k]∧σ'=(k,oC #[.string (bs t)] 9)::σ):=by
 refine Bf 4 [2] Tryz.func35 rfl fun Q b g=>w_q rfl rfl fun e c=>Arv (Eb (v:=.string (bs t)) rfl fun a=>?_)
 refine Av .nilFunc (Arx rfl rfl c fun f d=>l_v (Il (fn:=.func 68) (caps:=[.tmp 1]) (vs:=[pV a]) ⟨rfl,trivial⟩) (Av (.func (.func 68) #[] #[pV a]) (l_k d (Aq (b ⟨rfl,_,rfl,rfl⟩)))))
end
end Go.Proofs.YtjdkajkimeainaaGreatDoor
