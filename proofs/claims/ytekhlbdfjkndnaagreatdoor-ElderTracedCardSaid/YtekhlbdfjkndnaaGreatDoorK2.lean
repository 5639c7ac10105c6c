/- Part 2 of what all laws of layer 8 need: a logic of programs that start goroutines, and what the functions yield. -/
import Derived.Test.YtekhlbdfjkndnaaGreatDoorK1
import Derived.Carry
import Derived.ChangeArms
import Derived.ChangeSame
import Derived.ChangeVars
import Derived.Conc.Holds
import Derived.Conc.LeavingOf
import Derived.Conc.Quits
import Derived.FnData
import Derived.KernelRfl
import Derived.LaidHandle
import Derived.LaidLaws
import Derived.LaidMore
import Derived.Lib.Bytealg
import Derived.OpenShut
import Derived.RowKit
import Derived.SevenTiedAt
import Derived.SizedLaws
import Derived.Stop.Joined
import Derived.Test.YtekhlbdfjkndnaaGreatDoorCards
import Derived.Test.YtekhlbdfjkndnaaGreatDoorRows
import Derived.Test.YtekhlbdfjkndnaaGreatDoorTie
import Derived.WideShapes
set_option linter.unusedVariables false
set_option linter.unusedSimpArgs false
set_option maxRecDepth 100000
set_option maxHeartbeats 4000000
namespace Go.Proofs.YtekhlbdfjkndnaaGreatDoor
open Go
section
open Go Go.Conc Go.RowKit
open Go.ConcN (sumTo sumTo_upd upd_ne upd_same)
section
variable{P:Program}{W0:World}{fr:Frame}{cs:List Frame}{Y:Ro}{Z:Own}{c k r:Nat}{l:List WK}{B:List (Nat×Value)}{A0 S0:Nat->Prop}{mp:Option (Value×Bool)}
 {gs:Array Goroutine} {w:World} {t:Trace} {q:Nat->Nat}
theorem PhN.leave{i n:Nat}{g g':Goroutine}(h:PhN P W0 fr cs Y Z c k l B r A0 S0 mp gs w t q)(hi:gs[i]?=some g)(hi0:i≠0)(hil:∀x∈l,x.j=i->∃v ρw p,x.st = .sent v ρw p)(hq:QuitsIn P n g') :
  PhN P W0 fr cs Y Z c k l B r A0 S0 mp ((gs.map (woken P g g' w)).setIfInBounds i g') w t (Go.ConcN.upd q i n):=by
 obtain⟨cap,tm,hh,_⟩:=h.ch;exact { h with
  g0:=fun e=>by
   obtain⟨x,hx,his⟩:=h.g0 e;exact⟨x,by rw[Ei (Ne.symm hi0) hx,Fo (.inl his.1)],his⟩
  g0p:=fun z f e=>by
   obtain⟨d,u⟩:=h.g0p z f e;exact⟨by rw[Ei (Ne.symm hi0) d,woken_recv_open _ _ hh],u⟩
  oth:=fun m x hm C hx=>by
   rcases Jv hx with⟨rfl,rfl⟩|⟨hni,y,hy,rfl⟩
   ·rw[upd_same];exact hq
   ·have:=h.oth m y hm C hy;rw[Fo this.status,upd_ne q n hni];exact this
  jl:=fun x hx=>by simpa using h.jl x hx
  run:=fun x hx fw cw ρw σw e=>{ h.run x hx fw cw ρw σw e with
   g:=by
    obtain⟨y,hy,his⟩:=(h.run x hx fw cw ρw σw e).g;have hj:x.j≠i:=fun b=>by
     obtain⟨v,D,p,a⟩:=hil x hx b;rw[e]at a;cases a
    exact⟨y,by rw[Ei hj hy,Fo (.inl his.1)],his⟩ } }
theorem PhN.ghost{Y':Ro}{Z':Own}(hg:Ghost Y Z Y' Z')(hne:l≠[])(h:PhN P W0 fr cs Y Z c k l B r A0 S0 mp gs w t q):PhN P W0 fr cs Y' Z' c k l B r A0 S0 mp gs w t q:=by
 have hc':(c,Res.crowd k (l.map (·.R)))∈Z':=hg.crowdsKept _ _ _ (by simpa using hne) h.hc;have hcc:∀o,(c,Res.obj o)∉Z:=fun o ho=>by have:=h.sat.uniq ho h.hc;cases this
 exact { h with
  sat:=hg.sat _ h.sat
  hc:=hc'
  one:=fun c' k' Rs' hx hn=>h.one c' k' Rs' (hg.crowds _ _ _ hx) hn
  nr:=fun c' vs hx=>h.nr c' vs ((hg.ends _ _).1 hx)
  newk:=fun b hb=>h.newk b (hg.keys b hb)
  am:=fun b x hb hbc=>by
   have:=hg.keys b (Du hb);obtain⟨⟨b',y⟩,hy,e⟩:=Lp.1 this;simp only at e;subst e;exact h.am _ y hy hbc
  rm:=fun b hb=>(hg.dom b hb).elim (h.rm b) fun⟨o,ho⟩=>.inr (h.am b _ ho fun e=>hcc o (e ▸ ho)) }
theorem PhN.ghostw{i:Nat}{x:WK}{fw:Frame}{cw:List Frame}{ρw Yw':Ro}{σw Zw':Own}(hg:Ghost ρw σw Yw' Zw')(h:PhN P W0 fr cs Y Z c k l B r A0 S0 mp gs w t q)(hi:l[i]?=some x)(hst:x.st = .run fw cw ρw σw) :
    PhN P W0 fr cs Y Z c k (l.set i {x with st:=.run fw cw Yw' Zw'}) B r A0 S0 mp gs w t q:=by
  have hxl:x∈l:=lZ6 hi;have hR:=h.run x hxl fw cw ρw σw hst;have hm:∀{y},y∈l.set i {x with st:=.run fw cw Yw' Zw'}->y={x with st:=.run fw cw Yw' Zw'}∨(y∈l/\y.j≠x.j):=fun hy=>Ank h.jn hi hy;have hmj:(l.set i {x with st:=.run fw cw Yw' Zw'}).map (·.j)=l.map (·.j):=Un hi rfl;have hmR:(l.set i {x with st:=.run fw cw Yw' Zw'}).map (·.R)=l.map (·.R):=Un hi rfl;exact { h with
    oth:=fun m y F D hy=>h.oth m y F (fun z hz e=>by
      by_cases hzx:z.j=x.j
      · obtain⟨v,C,p,d⟩:=D _ (Jy hi) (hzx.symm.trans e)
        cases d
      · exact D z (Lg hi hz hzx) e) hy
    j0:=fun y hy=>by rcases hm hy with rfl|⟨hy,_⟩<;>first|exact h.j0 x hxl|exact h.j0 y hy
    jl:=fun y hy=>by rcases hm hy with rfl|⟨hy,_⟩<;>first|exact h.jl x hxl|exact h.jl y hy
    jn:=by rw[hmj];exact h.jn
    run:=fun y hy H G I J e=>by
      rcases hm hy with rfl|⟨hy,hj⟩
      · cases e
        exact { g := hR.g, sat := hg.sat _ hR.sat, newk := fun b hb => hR.newk b (hg.keys b hb), aw := fun b hb => hR.aw b (hg.keys b hb), kn := hR.kn
                rw_:=fun b hb=>(hg.dom b hb).elim (hR.rw_ b) fun⟨o,ho⟩=>.inr (hR.aw b (Du ho)) }
      · exact h.run y hy _ _ _ _ e
    sent:=fun y hy v C p e=>by
      rcases hm hy with rfl|⟨hy,hj⟩
      · cases e
      · exact h.sent y hy v C p e
    buf:=fun j v hb=>by
      obtain⟨y,hy,e,C,p,d⟩:=h.buf j v hb;exact⟨y,Lg hi hy (fun ej=>by have:=Vo h.jn hy hxl ej;subst this;rw[hst]at d;cases d),e,C,p,d⟩
    ch:=by obtain⟨cap,tm,f,E⟩:=h.ch;exact⟨cap,tm,f,by simpa using E⟩
    hc:=by rw[hmR];exact h.hc
    ap:=fun y hy z hz hj b hb=>by
      rcases hm hy with rfl|⟨hy,hyj⟩<;>rcases hm hz with rfl|⟨hz,hzj⟩
      · exact absurd rfl hj
      · exact h.ap x hxl z hz hj b hb
      · exact h.ap y hy x hxl hj b hb
      · exact h.ap y hy z hz hj b hb
    a0:=fun y hy b hb=>by rcases hm hy with rfl|⟨hy,_⟩<;>first|exact h.a0 x hxl b hb|exact h.a0 y hy b hb
    ss:=fun y hy b hb=>by rcases hm hy with rfl|⟨hy,_⟩<;>first|exact h.ss x hxl b hb|exact h.ss y hy b hb
    nc:=⟨h.nc.1,h.nc.2.1,fun y hy f=>by rcases hm hy with rfl|⟨hy,_⟩<;>first|exact h.nc.2.2 x hxl f|exact h.nc.2.2 y hy f⟩
    lt:=fun b hb=>h.lt b (hb.imp id fun hb=>hb.imp id fun⟨y,hy,hb⟩=>by rcases hm hy with rfl|⟨hy,_⟩<;>first|exact⟨x,hxl,hb⟩|exact⟨y,hy,hb⟩)
    al:=fun n a ha hm'=>(h.al n a ha hm').imp id fun⟨y,hy,u⟩=>by
      by_cases hj:y.j=x.j
      · have:=Vo h.jn hy hxl hj
        subst this;unfold AlOk at u;rw[hst]at u;exact⟨_,Jy hi,u⟩
      · exact⟨y,Lg hi hy hj,u⟩ }
theorem PhA.toN(h:PhA P W0 fr cs Y Z gs w t q)(hc:(c,Res.crowd k [])∈Z):∃r,PhN P W0 fr cs Y Z c k [] [] r (fun b=>∃x,(b,x)∈Z/\b≠c) (fun b=>(Y b).isSome=true) none gs w t q:=by
 obtain⟨cap,buf,s,r,tm,m,d,n⟩:=h.sat.own _ hc;obtain⟨rfl,rfl⟩:=n rfl;refine⟨s,{
  g0:=fun _=>h.g0
  g0p:=fun z f e=>by cases e
  oth:=fun i g hi _ hg=>h.oth i g hi hg
  j0:=fun x hx=>by cases hx
  jl:=fun x hx=>by cases hx
  jn:=Aqn
  run:=fun x hx=>by cases hx
  sent:=fun x hx=>by cases hx
  buf:=fun j v hx=>by cases hx
  bn:=Aqn
  ch:=⟨cap,tm,m,d⟩
  sat:=h.sat
  hc:=hc
  one:=fun c' k' Rs' hx hn=>absurd (h.nr.crowd c' k' Rs' hx) hn
  nr:=h.nr.recv
  newk:=h.newk
  below:=h.below
  am:=fun b x hb hbc=>⟨x,hb,hbc⟩
  rm:=fun b hb=>.inl hb
  ap:=fun x hx=>by cases hx
  a0:=fun x hx=>by cases hx
  ds:=fun b ⟨x,hb,_⟩ d=>by rw[h.sat.dj b (Du hb)]at d;cases d
  ss:=fun x hx=>by cases hx
  nc:=⟨fun⟨_,_,h⟩=>h rfl,by rw[h.sat.dj c (Du hc)];simp,fun x hx=>by cases hx⟩
  lt:=fun b hb=>by
   rcases hb with⟨x,hb,_⟩|hb|⟨x,hx,_⟩
   ·exact h.sat.key_lt (Du hb)
   ·obtain⟨o,ho⟩:=Bat.1 hb;exact Dq (h.sat.ro b o ho).1
   ·cases hx
  wl:=h.tr.wl
  clean:=h.tr.clean
  k0:=fun i a ha hm=>.inl (h.tr.known i a ha hm)
  al:=fun i a ha hm=>.inl (h.tr.known i a ha hm) }⟩
theorem PhN.toA(h:PhN P W0 fr cs Y Z c k [] B r A0 S0 none gs w t q):PhA P W0 fr cs Y Z gs w t q where
 g0:=h.g0 rfl
 oth:=fun i g hi hg=>h.oth i g hi (fun x hx=>by cases hx) hg
 sat:=h.sat
 nr:=⟨h.nr,fun c' k' Rs' hx=>by
  by_cases hn:Rs'=[]
  ·exact hn
  ·have e:=h.one c' k' Rs' hx hn;subst e;have:=h.sat.uniq hx h.hc;injection this⟩
 newk:=h.newk
 below:=h.below
 tr:=⟨h.wl,h.clean,fun i a ha hm=>(h.al i a ha hm).resolve_right fun⟨x,hx,_⟩=>by cases hx⟩
theorem PhN.fork{d:Deferred}{i:Nat}{fr':Frame}{R:Value->Ro->Prop}{fn fn':FuncId}{pos pos':String}(h:PhN P W0 fr cs Y Z c (k+1) l B r A0 S0 none gs w t q)(hi:Z[i]?=some (c,Res.crowd (k+1) (l.map (·.R))))
    {x:WK} (hx:x=⟨gs.size,R,fun _=>False,fun b=>(Y b).isSome=true,.run (Gg P d) [] Y []⟩) :
    PhN P W0 fr' cs Y (Z.set i (c,.crowd k ((l++[x]).map (·.R)))) c k (l++[x]) B r (fun b=>A0 b/\(Y b).isSome=false) (fun b=>S0 b∨(Y b).isSome=true) none
      ((gs.setIfInBounds 0 (G fr' cs)).push (G (Gg P d) [])) w ((t.push {g:=0,fn:=fn,pos:=pos,act:=.go gs.size}).push {g:=gs.size,fn:=fn',pos:=pos',act:=.start}) q:=by
  obtain⟨g,hg,his⟩:=h.g0 rfl;have hsz:0<gs.size:=(Agh.1 hg).1;obtain⟨V,E,M,W⟩:=Bpx (j:=gs.size) h.wl (x:={g:=0,fn:=fn,pos:=pos,act:=.go gs.size}) (y:={g:=gs.size,fn:=fn',pos:=pos',act:=.start}) ⟨rfl,rfl⟩ ⟨rfl,rfl⟩;have I:=Tt (r':=Res.crowd k ((l++[x]).map (·.R))) hi;have H:∀p,p∈Z.set i (c,Res.crowd k ((l++[x]).map (·.R)))->p=(c,.crowd k ((l++[x]).map (·.R)))∨(p∈Z/\p.1≠c):=fun p hp=>Gq hi h.sat.nd hp;have T:(c,Res.crowd k ((l++[x]).map (·.R)))∈Z.set i (c,.crowd k ((l++[x]).map (·.R))):=by
    have hlt:i<Z.length:=by
      rcases Tk i Z.length with h'|h'
      · exact h'
      · rw[Sr h']at hi;cases hi
    exact lZ6 (i:=i) (by rw[Vc];simp[hlt])
  have L:∀m y,m<gs.size->m≠0->(((gs.setIfInBounds 0 (G fr' cs)).push (G (Gg P d) []))[m]?=some y↔gs[m]?=some y):=fun m y hm O=>by
    rw[Bav];simp only[Awz,Aif hm,if_false];rw[Bhd (Ne.symm O)]
  have hml:∀{y},y∈l++[x]->y∈l∨y=x:=fun hy=>by
    rcases Gv.1 hy with hy|hy
    · exact .inl hy
    · exact .inr (Nh.1 hy)
  have hj:∀y∈l,y.j≠x.j:=fun y hy e=>by subst hx;exact absurd (h.jl y hy) (by rw[e];exact Nat.lt_irrefl _)
  have hcr:Y c=none:=h.sat.dj c (Du h.hc);obtain⟨cap,tm,hch,X⟩:=h.ch;have hxj:x.j=gs.size:=by rw[hx]
  have hxA:∀b,¬x.A b:=fun b hb=>by rw[hx]at hb;exact hb
  have hxS:∀b,x.S b↔(Y b).isSome=true:=fun b=>by rw[hx]
  rw[M];exact {
    g0:=fun _=>⟨G fr' cs,by rw[Bav];simp only[Awz,Aif hsz,if_false];exact Fq hg,Is.of _ _⟩
    g0p:=fun z f e=>by cases e
    oth:=fun m y hm J hy=>by
      by_cases hms:m=gs.size
      · obtain⟨v,N,p,e⟩:=J x (by simp) (by rw[hxj,hms])
        rw[hx]at e;cases e
      · have hlt:m<gs.size:=by
          have:=(Agh.1 hy).1;simp only[Array.size_push,Awz]at this;omega
        exact h.oth m y hm (fun z hz e=>J z (Iz _ hz) e) ((L m y hlt hm).1 hy)
    j0:=fun y hy=>by
      rcases hml hy with hy|rfl
      · exact h.j0 y hy
      · rw[hxj];omega
    jl:=fun y hy=>by
      simp only[Array.size_push,Awz];rcases hml hy with hy|rfl
      · exact Aws (h.jl y hy)
      · rw[hxj];omega
    jn:=by
      rw[Mi,Aix];refine⟨h.jn,by simp,fun a ha b hb e=>?_⟩;obtain⟨y,hy,rfl⟩:=Lp.1 ha;have hb':b=x.j:=by simpa using hb
      exact hj y hy (e.trans hb')
    run:=fun y hy fw cw ρw σw e=>by
      rcases hml hy with hy|rfl
      · have z:=h.run y hy fw cw ρw σw e
        exact { g := by
                  obtain⟨u,hu,hi⟩:=z.g;exact⟨u,(L _ _ (h.jl y hy) (h.j0 y hy)).2 hu,hi⟩
                sat:=z.sat,newk:=z.newk,aw:=z.aw,rw_:=z.rw_,kn:=z.kn.other (Ib _) (Oq E) }
      · rw[hx]at e;cases e
        refine⟨⟨G (Gg P d) [],by rw[hxj,Bav];simp,Is.of _ _⟩,⟨h.sat.ro,fun p hp=>absurd hp Xp,Aqn,fun b hb=>absurd hb Xp⟩,fun b hb=>(by cases hb),fun b hb=>(by cases hb),fun b hb=>.inl ((hxS b).2 hb),?_⟩;intro n a ha hm;rcases h.k0 n a (Aej ha E) hm with C|C
        · exact .inl (by rw[hxj];exact W n C)
        · refine .inr (C.mono (Ib _) (fun p ⟨b,_,hb⟩=>absurd hb (hxA b)) fun p ⟨b,K,hb⟩=>?_)
          exact(h.rm b ((hxS b).1 hb)).elim (fun D=>.inr ⟨b,K,D⟩) fun D=>.inl ⟨b,K,D⟩
    sent:=fun y hy v N p e=>by
      rcases hml hy with hy|rfl
      · exact(h.sent y hy v N p e).kept (fun b _=>rfl) (Ib _) (Oq E)
      · rw[hx]at e;cases e
    buf:=fun j v hb=>by
      obtain⟨y,hy,e⟩:=h.buf j v hb;exact⟨y,Iz _ hy,e⟩
    bn:=h.bn
    ch:=⟨cap,tm,hch,by simp only[lZ4,Xo];omega⟩
    sat:=by
      refine⟨h.sat.ro,fun p hp=>?_,by rw[I];exact h.sat.nd,by rw[I];exact h.sat.dj⟩;rcases H p hp with rfl|⟨hp',_⟩
      · exact⟨cap,_,_,_,tm,hch,by simp only[Abj,lZ4,Xo];omega,fun e=>by simp at e⟩
      · exact h.sat.own p hp'
    hc:=T
    one:=fun c' k' Rs' hc' hn=>by
      rcases H _ hc' with e|⟨hc'',_⟩
      · injection e
      · exact h.one c' k' Rs' hc'' hn
    nr:=fun c' vs hc'=>by
      rcases H _ hc' with e|⟨hc'',_⟩
      · cases e
      · exact h.nr c' vs hc''
    newk:=by rw[I];exact h.newk
    below:=h.below
    am:=fun b y hb hbc=>by
      rcases H _ hb with e|⟨hb',_⟩
      · injection e with e _;exact absurd e hbc
      · exact⟨h.am b y hb' hbc,by rw[h.sat.dj b (Du hb')];rfl⟩
    rm:=fun b hb=>.inl (.inr hb)
    ap:=fun y hy z hz hne b hb=>by
      rcases hml hy with hy'|e
      · rcases hml hz with hz'|e
        · exact h.ap y hy' z hz' hne b hb
        · rw[e];exact⟨hxA b,fun C=>(h.rm b ((hxS b).1 C)).elim (h.a0 y hy' b hb).2 (h.a0 y hy' b hb).1⟩
      · rw[e]at hb;exact absurd hb (hxA b)
    a0:=fun y hy b hb=>by
      rcases hml hy with hy|rfl
      · exact⟨fun C=>(h.a0 y hy b hb).1 C.1,fun C=>C.elim (h.a0 y hy b hb).2 fun C=>(h.rm b C).elim (h.a0 y hy b hb).2 (h.a0 y hy b hb).1⟩
      · exact absurd hb (hxA b)
    ds:=fun b hb C=>C.elim (h.ds b hb.1) fun C=>by rw[hb.2]at C;cases C
    ss:=fun y hy b hb=>by
      rcases hml hy with hy|rfl
      · exact .inl (h.ss y hy b hb)
      · exact .inr ((hxS b).1 hb)
    nc:=⟨fun C=>h.nc.1 C.1,fun C=>C.elim h.nc.2.1 (fun C=>by rw[hcr]at C;cases C),fun y hy C=>by
      rcases hml hy with hy|rfl
      · exact h.nc.2.2 y hy C
      · exact hxA c C⟩
    lt:=fun b hb=>by
      rcases hb with hb|(hb|hb)|⟨y,hy,hb⟩
      · exact h.lt b (.inl hb.1)
      · exact h.lt b (.inr (.inl hb))
      · exact(h.rm b hb).elim (fun C=>h.lt b (.inr (.inl C))) fun C=>h.lt b (.inl C)
      · rcases hml hy with hy|rfl
        · exact h.lt b (.inr (.inr ⟨y,hy,hb⟩))
        · exact absurd hb (hxA b)
    wl:=by rw[<-M];exact V
    clean:=fun U=>Ni (h.clean U) E
    k0:=(h.k0.mono (Ib _) (fun p ⟨b,C,D⟩=>⟨b,C,D.1⟩) fun p ⟨b,C,D⟩=>by
      rcases D with D|D
      · exact .inr ⟨b,C,D⟩
      · exact(h.rm b D).elim (fun F=>.inr ⟨b,C,F⟩) fun F=>.inl ⟨b,C,F⟩).other (Ib _) (Oq E)
    al:=fun n a ha hm=>(h.al n a (Aej ha E) hm).imp (·.app _) fun⟨y,hy,F⟩=>⟨y,Iz _ hy,F.app _⟩ }
theorem PhN.send{i n:Nat}{x:WK}{fw:Frame}{cw:List Frame}{ρw:Ro}{σw:Own}{v:Value}{cap:Nat}{tm:Bool}{fn fn':FuncId}{pos pos':String}(h:PhN P W0 fr cs Y Z c k l B r A0 S0 none gs w t q)(hi:l[i]?=some x)
  (hst:x.st = .run fw cw ρw σw) (hv:x.R v ρw) (hq:QuitsIn P n (Conc.served (G fw cw) undef)) (hcap:k+l.length<=cap) :
  PhN P W0 fr cs Y Z c k (l.set i {x with st:=.sent v ρw t.size}) (B++[(x.j,v)]) r A0 S0 none (gs.setIfInBounds x.j (Conc.served (G fw cw) undef)) (w.setChan c cap ((B.map Prod.snd).toArray.push v) false (r+B.length+1) r tm)
   (t ++ #[{g:=x.j,fn:=fn,pos:=pos,act:=.send c (r+B.length)},{g:=x.j,fn:=fn',pos:=pos',act:=.sendDone c (r+B.length)}]) (Go.ConcN.upd q x.j n):=by
 have hxl:x∈l:=lZ6 hi;have hR:=h.run x hxl fw cw ρw σw hst;obtain⟨V,YQ,hch,_⟩:=h.ch;have N:c<w.heap.size:=Dq hch;have hcW:W0.heap.size<=c:=h.newk c (Du h.hc);generalize hu:(#[{g:=x.j,fn:=fn,pos:=pos,act:=.send c (r+B.length)},{g:=x.j,fn:=fn',pos:=pos',act:=.sendDone c (r+B.length)}]:Trace)=u;have E:∀op∈u,op.act.touch?=none:=fun op hop=>by
  subst hu;simp only[Aow,lZ8,Xp,or_false]at hop;rcases hop with rfl|rfl<;>rfl
 have hwl:Wordless u:=fun op hop m hm=>by
  subst hu;simp only[Aow,lZ8,Xp,or_false]at hop;rcases hop with rfl|rfl<;>cases hm
 have hat:(t++u)[t.size]?=some {g:=x.j,fn:=fn,pos:=pos,act:=.send c (r+B.length)}:=by rw[Amx (Ib _)];subst hu;simp
 have hsz:(w.setChan c cap ((B.map Prod.snd).toArray.push v) false (r+B.length+1) r tm).heap.size=w.heap.size:=by simp[World.setChan]
 have hne:∀b,b≠c->(w.setChan c cap ((B.map Prod.snd).toArray.push v) false (r+B.length+1) r tm).heap[b]?=w.heap[b]?:=fun b hb=>Fi hb;have hm:∀{y},y∈l.set i {x with st:=.sent v ρw t.size}->y={x with st:=.sent v ρw t.size}∨(y∈l/\y.j≠x.j):=fun hy=>Ank h.jn hi hy;have hmj:(l.set i {x with st:=.sent v ρw t.size}).map (·.j)=l.map (·.j):=Un hi rfl;have hmR:(l.set i {x with st:=.sent v ρw t.size}).map (·.R)=l.map (·.R):=Un hi rfl;have H:∀y∈l,∀b,y.A b∨y.S b->b≠c:=fun y hy b hb e=>by
  subst e;rcases hb with hb|hb
  ·exact h.nc.2.2 y hy hb
  ·exact h.nc.2.1 (h.ss y hy _ hb)
 have hBn:x.j∉B.map Prod.fst:=fun hb=>by
  obtain⟨⟨j,v'⟩,hb,e⟩:=Lp.1 hb;obtain⟨y,hy,d,F,p,I⟩:=h.buf j v' hb;have:=Vo h.jn hy hxl (d.trans e);subst this;rw[hst]at I;cases I
 have hsn:(w.setChan c cap ((B.map Prod.snd).toArray.push v) false (r+B.length+1) r tm).heap[c]?=some (.chan cap ((B++[(x.j,v)]).map Prod.snd).toArray false (r+(B++[(x.j,v)]).length) r tm):=by
  rw[Hq N];simp only[Mi,Ic,List.map_nil,lZ4,Xo,List.push_toArray,Nat.add_assoc]
 exact {
  g0:=fun e=>by
   obtain⟨y,hy,hi⟩:=h.g0 e;exact⟨y,by rw[Dw (Ne.symm (h.j0 x hxl))];exact hy,hi⟩
  g0p:=fun z f e=>by cases e
  oth:=fun m y O M hy=>by
   rcases get_set hy with⟨rfl,rfl⟩|⟨hmx,hy⟩
   ·rw[upd_same];exact hq
   ·rw[upd_ne q n hmx];exact h.oth m y O (fun z hz e=>M z (Lg hi hz (by rw[e];exact hmx)) e) hy
  j0:=fun y hy=>by rcases hm hy with rfl|⟨hy,_⟩<;>first|exact h.j0 x hxl|exact h.j0 y hy
  jl:=fun y hy=>by
   simp only[Awz];rcases hm hy with rfl|⟨hy,_⟩<;>first|exact h.jl x hxl|exact h.jl y hy
  jn:=by rw[hmj];exact h.jn
  run:=fun y hy X W ZQ a1 e=>by
   rcases hm hy with rfl|⟨hy,hj⟩
   ·cases e
   ·refine(h.run y hy _ _ _ _ e).kept ?_ (fun b hb=>hne b (H y hy b hb)) (Amu hsz.symm) (Oq E);obtain⟨z,hz,hi⟩:=(h.run y hy _ _ _ _ e).g;exact⟨z,by rw[Dw hj];exact hz,hi⟩
  sent:=fun y hy U F p e=>by
   rcases hm hy with rfl|⟨hy,hj⟩
   ·cases e;refine⟨hv,fun b o hb=>?_,hR.rw_,?_,B.length,_,by simp,hat,rfl⟩
    ·rw[hne b (H x hxl b (hR.rw_ b (by rw[hb];rfl)).symm)];exact hR.sat.ro b o hb
    ·rw[hsz];exact hR.kn.told E (Ib _) hat rfl
   ·have z:=(h.sent y hy U F p e).kept (w':=w.setChan c cap ((B.map Prod.snd).toArray.push v) false (r+B.length+1) r tm) (fun b hb=>hne b (H y hy b hb)) (Amu hsz.symm) (Oq E);obtain⟨m,op,C,K,D⟩:=z.at_;have hlt:m<B.length:=by
     rcases Tk m B.length with h'|h'
     ·exact h'
     ·rw[Sr h']at C;cases C
    exact⟨z.val,z.sat,z.rw_,z.kp,m,op,by rw[Aiv hlt];exact C,K,D⟩
  buf:=fun j v' hb=>by
   rcases Gv.1 hb with hb|hb
   ·obtain⟨y,hy,e,F,p,d⟩:=h.buf j v' hb;exact⟨y,Lg hi hy (fun ej=>by have:=Vo h.jn hy hxl ej;subst this;rw[hst]at d;cases d),e,F,p,d⟩
   ·have e:(j,v')=(x.j,v):=by simpa using hb
    injection e with e1 d;subst e1 d;exact⟨_,Jy hi,rfl,ρw,t.size,rfl⟩
  bn:=by
   rw[Mi,Aix];refine⟨h.bn,by simp,fun a ha b hb e=>?_⟩;have hb':b=x.j:=by simpa using hb
   exact hBn (hb' ▸ e ▸ ha)
  ch:=⟨cap,tm,hsn,by simpa using hcap⟩
  sat:=by
   refine⟨fun b o hb=>?_,fun p hp=>?_,h.sat.nd,h.sat.dj⟩
   ·have hbc:b≠c:=fun e=>by
     have:=h.sat.dj c (Du h.hc);rw[<-e,hb]at this;cases this
    rw[hne b hbc];exact h.sat.ro b o hb
   ·have hf:=h.sat.own p hp;obtain⟨b,y⟩:=p;by_cases hbc:b=c
    ·subst hbc;have e:=h.sat.uniq hp h.hc;subst e;exact⟨cap,_,_,_,tm,hsn,by simpa using hcap,fun e=>by
      have:l=[]:=by simpa using e
      rw[this]at hxl;cases hxl⟩
    ·exact Res.fits_of hf (hne b hbc)
  hc:=by rw[hmR];exact h.hc
  one:=h.one
  nr:=h.nr
  newk:=h.newk
  below:=⟨h.below.os,h.below.tape,h.below.output,by rw[hsz];exact h.below.size,fun m hm=>by rw[hne m (by omega)];exact h.below.block m hm⟩
  am:=h.am
  rm:=h.rm
  ap:=fun y hy z hz hj b hb=>by
   rcases hm hy with rfl|⟨hy,hyj⟩<;>rcases hm hz with rfl|⟨hz,hzj⟩
   ·exact absurd rfl hj
   ·exact h.ap x hxl z hz hj b hb
   ·exact h.ap y hy x hxl hj b hb
   ·exact h.ap y hy z hz hj b hb
  a0:=fun y hy b hb=>by rcases hm hy with rfl|⟨hy,_⟩<;>first|exact h.a0 x hxl b hb|exact h.a0 y hy b hb
  ds:=h.ds
  ss:=fun y hy b hb=>by rcases hm hy with rfl|⟨hy,_⟩<;>first|exact h.ss x hxl b hb|exact h.ss y hy b hb
  nc:=⟨h.nc.1,h.nc.2.1,fun y hy C=>by rcases hm hy with rfl|⟨hy,_⟩<;>first|exact h.nc.2.2 x hxl C|exact h.nc.2.2 y hy C⟩
  lt:=fun b hb=>by
   rw[hsz];exact h.lt b (hb.imp id fun hb=>hb.imp id fun⟨y,hy,hb⟩=>by rcases hm hy with rfl|⟨hy,_⟩<;>first|exact⟨x,hxl,hb⟩|exact⟨y,hy,hb⟩)
  wl:=h.wl.append hwl
  clean:=fun T=>Ni (h.clean T) E
  k0:=h.k0.other (Amu hsz.symm) (Oq E)
  al:=fun m a ha hm'=>(h.al m a (Aej ha E) hm').imp (·.app _) fun⟨y,hy,D⟩=>by
   by_cases hj:y.j=x.j
   ·have:=Vo h.jn hy hxl hj;subst this;unfold AlOk at D;rw[hst]at D;obtain⟨op,J,L⟩:=D;have hlt:=lt_size_of_getElem? J;exact⟨_,Jy hi,.inr (hb_po hlt (by rw[getElem?_append_old hlt];exact J) hat L)⟩
   ·exact⟨y,Lg hi hy hj,D.app _⟩ }
theorem Wi{β:Type}{f:WK->β}{i:Nat}:(l.eraseIdx i).map f=(l.map f).eraseIdx i:=by
 induction l generalizing i with
 | nil=>simp
 | cons a l ih=>cases i with
  | zero=>rfl
  | succ i=>simp only[List.eraseIdx_cons_succ,Ic,ih]
theorem PhN.take{i i0 p q0:Nat}{x:WK}{rv:Value}{ρw:Ro}{B':List (Nat×Value)}{cap:Nat}{tm:Bool}{gs':Array Goroutine}{u:Trace}{q':Nat->Nat}{y0:MemOp}(h:PhN P W0 fr cs Y Z c k l B r A0 S0 mp gs w t q)(hi:l[i]?=some x)
  (hi0:Z[i0]?=some (c,Res.crowd k (l.map (·.R)))) (hcap:k+l.length<=cap) (hsw:∀b o,ρw b=some o->w.heap[b]?=some o/\o.isChan=false) (hrw:∀b,(ρw b).isSome=true->x.S b∨x.A b)
  (hkp:KPt (t++u) p w.heap.size (BL x.A) (BL x.S)) (hmute:∀op∈u,op.act.touch?=none) (hwl:Wordless u) (hy0:(t++u)[q0]?=some y0) (hy0g:y0.g=0) (hpq:HappensBefore (t++u) p q0) (hal:∀m,AlOk t m x->Before (t++u) m p)
  (hB:(B=[]/\B'=[])∨∃v',B=(x.j,v')::B') (hg0:∃g,gs'[0]?=some g/\Is g (fr.finish rv) cs) (hgs:gs'.size=gs.size) (hgo:∀m,m≠0->m≠x.j->gs'[m]?=gs[m]?)
  (hq:∀g,gs'[x.j]?=some g->QuitsIn P (q' x.j) g) (hqo:∀m,m≠x.j->q' m=q m) :
  ∃Y',Ro.le Y Y'/\Ro.le ρw Y'/\PhN P W0 (fr.finish rv) cs Y' (Z.set i0 (c,.crowd k ((l.eraseIdx i).map (·.R)))) c k (l.eraseIdx i) B' (r+1) (fun b=>A0 b∨x.A b) S0 none gs' (w.setChan c cap (B'.map Prod.snd).toArray false (r+1+B'.length) (r+1) tm) (t++u) q':=by
 have hxl:x∈l:=lZ6 hi;obtain⟨X,a2,hch,_⟩:=h.ch;have G:c<w.heap.size:=Dq hch;have hcW:W0.heap.size<=c:=h.newk c (Du h.hc);have hsz:(w.setChan c cap (B'.map Prod.snd).toArray false (r+1+B'.length) (r+1) tm).heap.size=w.heap.size:=by simp[World.setChan]
 have hne:∀b,b≠c->(w.setChan c cap (B'.map Prod.snd).toArray false (r+1+B'.length) (r+1) tm).heap[b]?=w.heap[b]?:=fun b hb=>Fi hb;have hm:∀{y},y∈l.eraseIdx i->y∈l/\y.j≠x.j:=fun hy=>Bbb h.jn hi hy;have H:∀y∈l,∀b,y.A b∨y.S b->b≠c:=fun y hy b hb e=>by
  subst e;rcases hb with hb|hb
  ·exact h.nc.2.2 y hy hb
  ·exact h.nc.2.1 (h.ss y hy _ hb)
 have F:=Tt (r':=Res.crowd k ((l.eraseIdx i).map (·.R))) hi0;have C:∀z,z∈Z.set i0 (c,Res.crowd k ((l.eraseIdx i).map (·.R)))->z=(c,.crowd k ((l.eraseIdx i).map (·.R)))∨(z∈Z/\z.1≠c):=fun z hz=>Gq hi0 h.sat.nd hz;have O:(c,Res.crowd k ((l.eraseIdx i).map (·.R)))∈Z.set i0 (c,.crowd k ((l.eraseIdx i).map (·.R))):=by
  have hlt:i0<Z.length:=by
   rcases Tk i0 Z.length with h'|h'
   ·exact h'
   ·rw[Sr h']at hi0;cases hi0
  exact lZ6 (i:=i0) (by rw[Vc];simp[hlt])
 have a1:(l.eraseIdx i).length<=l.length:=List.length_eraseIdx_le _ _;have hBm:∀e,e∈B'->e∈B/\e.1≠x.j:=fun e he=>by
  rcases hB with⟨_,n⟩|⟨v',d⟩
  ·rw[n]at he;cases he
  ·refine⟨by rw[d];exact lZ0 _ he,fun ej=>?_⟩;have:=h.bn;rw[d,Ic,Tb]at this;exact this.1 (by simp only;rw[<-ej];exact Rk (f:=Prod.fst) he)
 let Y':Ro:=fun b=>match Y b with|some o=>some o|none=>ρw b
 have M:Ro.le Y Y':=fun b o hb=>by show (match Y b with|some o=>some o|none=>ρw b)=some o;rw[hb]
 have N:Ro.le ρw Y':=fun b o hb=>by
  show (match Y b with|some o=>some o|none=>ρw b)=some o;cases hr:Y b with
  | none=>exact hb
  | some o' =>
   have d:=(h.sat.ro b o' hr).1;rw[(hsw b o hb).1]at d;exact d.symm
 have hρ:∀b o,Y' b=some o->Y b=some o∨ρw b=some o:=fun b o hb=>by
  change (match Y b with|some o=>some o|none=>ρw b)=some o at hb
  cases hr:Y b with
  | none=>rw[hr]at hb;exact .inr hb
  | some o'=>rw[hr]at hb;exact .inl hb
 have hYd:∀b,(Y' b).isSome=true->S0 b∨A0 b∨x.A b:=fun b hb=>by
  obtain⟨o,ho⟩:=Bat.1 hb;rcases hρ b o ho with d|d
  ·exact(h.rm b (by rw[d];rfl)).imp id .inl
  ·exact(hrw b (by rw[d];rfl)).imp (h.ss x hxl b) .inr
 have hnc:∀b o,Y' b=some o->b≠c:=fun b o hb e=>by
  subst e;rcases hYd _ (by rw[hb];rfl) with d|d|d
  ·exact h.nc.2.1 d
  ·exact h.nc.1 d
  ·exact h.nc.2.2 x hxl d
 refine⟨Y',M,N,{
  g0:=fun _=>hg0
  g0p:=fun z f e=>by cases e
  oth:=fun m y I L hy=>by
   by_cases hmx:m=x.j
   ·subst hmx;exact hq y hy
   ·rw[hqo m hmx];refine h.oth m y I (fun z hz e=>L z (Rz hi hz (by rw[e];exact hmx)) e) ?_;rw[<-hgo m I hmx];exact hy
  j0:=fun y hy=>h.j0 y (hm hy).1
  jl:=fun y hy=>by rw[hgs];exact h.jl y (hm hy).1
  jn:=by rw[Wi];exact(List.eraseIdx_sublist _ _).nodup h.jn
  run:=fun y hy ZQ YQ a3 a4 e=>by
   refine(h.run y (hm hy).1 _ _ _ _ e).kept ?_ (fun b hb=>hne b (H y (hm hy).1 b hb)) (Amu hsz.symm) (Oq hmute);obtain⟨z,hz,hi⟩:=(h.run y (hm hy).1 _ _ _ _ e).g;exact⟨z,by rw[hgo _ (h.j0 y (hm hy).1) (hm hy).2];exact hz,hi⟩
  sent:=fun y hy V W T e=>by
   have z:=(h.sent y (hm hy).1 V W T e).kept (w':=w.setChan c cap (B'.map Prod.snd).toArray false (r+1+B'.length) (r+1) tm) (fun b hb=>hne b (H y (hm hy).1 b hb)) (Amu hsz.symm) (Oq hmute);refine⟨z.val,z.sat,z.rw_,z.kp,?_⟩;obtain⟨m,op,d,n,v⟩:=z.at_;rcases hB with⟨D,_⟩|⟨v',D⟩
   ·rw[D]at d;cases d
   ·rw[D]at d;cases m with
    | zero =>
     simp only[Bhe,Option.some.injEq,Prod.mk.injEq]at d;exact absurd d.1.symm (hm hy).2
    | succ m =>
     rw[Xm]at d;exact⟨m,op,d,n,by rw[v];congr 1;omega⟩
  buf:=fun j v' hb=>by
   obtain⟨d,n⟩:=hBm _ hb;obtain⟨y,hy,e,E⟩:=h.buf j v' d;exact⟨y,Rz hi hy (by rw[e];exact n),e,E⟩
  bn:=by
   rcases hB with⟨_,e⟩|⟨v',e⟩
   ·rw[e];exact Aqn
   ·have:=h.bn;rw[e,Ic,Tb]at this;exact this.2
  ch:=⟨cap,tm,Hq G,by omega⟩
  sat:=by
   refine⟨fun b o hb=>?_,fun z hz=>?_,by rw[F];exact h.sat.nd,fun b hb=>?_⟩
   ·rw[hne b (hnc b o hb)];exact(hρ b o hb).elim (h.sat.ro b o) (hsw b o)
   ·rcases C z hz with rfl|⟨hz',hzc⟩
    ·exact⟨cap,_,_,_,tm,Hq G,by rw[Abj];omega,fun e=>by
      have E:l.eraseIdx i=[]:=by simpa using e
      have J:B'=[]:=by
       cases hb:B' with
       | nil=>rfl
       | cons b0 B1 =>
        obtain⟨d,n⟩:=hBm b0 (by rw[hb];exact Vb ..);obtain⟨y,hy,K,_⟩:=h.buf b0.1 b0.2 d;have:=Rz hi hy (by rw[K];exact n);rw[E]at this;cases this
      rw[J];exact⟨rfl,rfl⟩⟩
    ·exact Res.fits_of (h.sat.own z hz') (hne z.1 hzc)
   ·rw[F]at hb;cases hr:Y' b with
    | none=>rfl
    | some o =>
     exfalso;rcases hρ b o hr with d|d
     ·rw[h.sat.dj b hb]at d;cases d
     ·obtain⟨⟨b',y⟩,hy,e⟩:=Lp.1 hb;simp only at e;subst e;have hA:=h.am _ y hy (hnc _ _ hr);rcases hrw _ (show (ρw b').isSome=true by rw[d];rfl) with n|n
      ·exact h.ds _ hA (h.ss x hxl _ n)
      ·exact(h.a0 x hxl _ n).1 hA
  hc:=O
  one:=fun c' k' Rs' hc' hn=>by
   rcases C _ hc' with e|⟨hc'',_⟩
   ·injection e
   ·exact h.one c' k' Rs' hc'' hn
  nr:=fun c' vs hc'=>by
   rcases C _ hc' with e|⟨hc'',_⟩
   ·cases e
   ·exact h.nr c' vs hc''
  newk:=by rw[F];exact h.newk
  below:=⟨h.below.os,h.below.tape,h.below.output,by rw[hsz];exact h.below.size,fun m hm=>by rw[hne m (by omega)];exact h.below.block m hm⟩
  am:=fun b y hb hbc=>by
   rcases C _ hb with e|⟨hb',_⟩
   ·injection e with e _;exact absurd e hbc
   ·exact .inl (h.am b y hb' hbc)
  rm:=hYd
  ap:=fun y hy z hz hj b hb=>h.ap y (hm hy).1 z (hm hz).1 hj b hb
  a0:=fun y hy b hb=>⟨fun d=>d.elim (h.a0 y (hm hy).1 b hb).1 (h.ap y (hm hy).1 x hxl (hm hy).2 b hb).1,(h.a0 y (hm hy).1 b hb).2⟩
  ds:=fun b hb=>hb.elim (h.ds b) fun hb=>(h.a0 x hxl b hb).2
  ss:=fun y hy=>h.ss y (hm hy).1
  nc:=⟨fun d=>d.elim h.nc.1 (h.nc.2.2 x hxl),h.nc.2.1,fun y hy=>h.nc.2.2 y (hm hy).1⟩
  lt:=fun b hb=>by
   rw[hsz];rcases hb with (hb|hb)|hb|⟨y,hy,hb⟩
   ·exact h.lt b (.inl hb)
   ·exact h.lt b (.inr (.inr ⟨x,hxl,hb⟩))
   ·exact h.lt b (.inr (.inl hb))
   ·exact h.lt b (.inr (.inr ⟨y,(hm hy).1,hb⟩))
  wl:=h.wl.append hwl
  clean:=fun U=>Ni (h.clean U) hmute
  k0:=(h.k0.hears hkp hmute hy0 hy0g hpq).mono (Amu hsz.symm) (fun p' ⟨b,d,n⟩=>n.imp (fun n=>⟨b,d,n⟩) fun n=>⟨b,d,n⟩) fun p' d=>.inr d
  al:=fun m a ha hm'=>by
   rcases h.al m a (Aej ha hmute) hm' with d|⟨y,hy,v⟩
   ·exact .inl (d.app _)
   ·by_cases hj:y.j=x.j
    ·have:=Vo h.jn hy hxl hj;subst this;exact .inl ⟨q0,y0,hy0,hy0g,.inr ((hal m v).hb hpq)⟩
    ·exact .inr ⟨y,Rz hi hy hj,v.app _⟩ }⟩
end
end
section
open Go Go.Conc Go.RowKit
open Go.ConcN (sumTo sumTo_upd upd_ne upd_same)
def Bwb(P:Program)(c:Nat)(x:WK)(K:WK->Prop):Prop:=match x.st with
  | .run fw cw ρw σw=>∃Y' Z',Ghost ρw σw Y' Z' /\
      ((∃K0, Aal (Wn P) fw cw Y' Z' K0 /\ ∀fr' cs' Z'', K0 fr' cs' Z'' -> ∀A, K {x with A := A, st := .run fr' cs' Y' Z''}) ∨
       (∃v z, Amv P c v z fw cw /\ x.R v Y' /\ (∃n, QuitsIn P n (Conc.served (G fw cw) undef)) /\ ∀p, K {x with st := .sent v Y' p}))
  | .sent ..=>True
inductive Live(P:Program)(c:Nat):WK->Prop
 | mk {x:WK} (K:WK->Prop):Bwb P c x K->(∀x',K x'->Live P c x')->Live P c x
theorem Live.sent{P:Program}{c j:Nat}{R:Value->Ro->Prop}{A S:Nat->Prop}{v:Value}{ρw:Ro}{p:Nat}:Live P c ⟨j,R,A,S,.sent v ρw p⟩:=.mk (fun _=>False) trivial fun _ h=>h.elim
theorem Live.of_msg{P:Program}{c:Nat}{R:Value->Ro->Prop}{fw:Frame}{cw:List Frame}{ρw:Ro}{σw:Own}(h:MsgI P c R fw cw ρw σw)(j:Nat)(S:Nat->Prop):∀A,Live P c ⟨j,R,A,S,.run fw cw ρw σw⟩:=by
 induction h with
 | ghost hg _ ih =>
  intro A;obtain⟨K,⟨Y',Z',b,d⟩,e⟩:=ih A;exact .mk K ⟨Y',Z',hg.trans b,d⟩ e
 | @step fw cw ρw σw K0 hst _ ih =>
  intro A;refine .mk (fun x'=>∃fr' cs' Z'' A',K0 fr' cs' Z''/\x'=⟨j,R,A',S,.run fr' cs' ρw Z''⟩) ⟨ρw,σw,.refl,.inl ⟨K0,hst,fun fr' cs' Z'' hk A'=>⟨fr',cs',Z'',A',hk,rfl⟩⟩⟩ ?_;rintro _ ⟨fr',cs',Z'',A',hk,rfl⟩;exact ih _ _ _ hk A'
 | @send v z fw cw ρw σw b d e =>
  intro A;refine .mk (fun x'=>∃p,x'=⟨j,R,A,S,.sent v ρw p⟩) ⟨ρw,σw,.refl,.inr ⟨v,z,b,d,e,fun p=>⟨p,rfl⟩⟩⟩ ?_;rintro _ ⟨p,rfl⟩;exact .sent
theorem Axg{P:Program}{c:Nat}:∀(n:Nat) (T:List WK->Prop),(∀l,(∀i x,l[i]?=some x->∃K,Bwb P c x K/\∀x',K x'->Live P c x'/\T (l.set i x'))->T l)->∀l,l.length=n->(∀x∈l,Live P c x)->T l
 | 0,T,good,l,hl,_=>by
  have:l=[]:=Bar hl;subst this;exact good [] fun i x hx=>by cases hx
 | n+1,T,good,l,hl,hall=>by
  have key:∀a,Live P c a->∀l',l'.length=n->(∀x∈l',Live P c x)->T (a::l'):=by
   intro a ha;induction ha with
   | @mk a K hf hk ih =>
    intro l' hl' b;refine Axg n (fun l'=>l'.length=n->(∀x∈l',Live P c x)->T (a::l')) (fun l' hs d hal=>good (a::l') fun i x hx=>?_) l' hl' b hl' b;cases i with
    | zero=>cases hx;exact⟨K,hf,fun x' hx'=>⟨hk x' hx',ih x' hx' l' d hal⟩⟩
    | succ i =>
     rw[Xm]at hx;obtain⟨K',hf',hk'⟩:=hs i x hx;refine⟨K',hf',fun x' hx'=>⟨(hk' x' hx').1,(hk' x' hx').2 (by simpa using d) fun y hy=>?_⟩⟩;rcases Blz hy with h|rfl
     ·exact hal y h
     ·exact(hk' _ hx').1
  cases l with
  | nil=>cases hl
  | cons a l'=>exact key a (hall a mC) l' (by simpa using hl) fun x hx=>hall x (lZ0 _ hx)
theorem Anh{α:Type}:∀{l m:List α},l.Nodup->(∀x∈l,x∈m)->l.length<=m.length
 | [],m,_,_=>Hn _
 | a::l,m,hn,hs=>by
  obtain⟨s,t,rfl⟩:=Bmo (hs a mC);have hn':=Tb.1 hn;have:=Anh (l:=l) (m:=s++t) hn'.2 fun x hx=>by
   have b:=hs x (lZ0 _ hx);rcases Gv.1 b with b|b
   ·exact Iz _ b
   ·rcases lZ8.1 b with rfl|b
    ·exact absurd hx hn'.1
    ·exact lZ5 _ b
  simp only[lZ4,Gb]at this ⊢;omega
section
variable{P:Program}{Pst:Value->World->Prop}{W0:World}{fr:Frame}{cs:List Frame}{Y:Ro}{Z:Own}{c k r:Nat}{l:List WK}{B:List (Nat×Value)}{A0 S0:Nat->Prop}{mp:Option (Value×Bool)}
 {gs:Array Goroutine} {w:World} {t:Trace} {q:Nat->Nat}
theorem PhN.awake(h:PhN P W0 fr cs Y Z c k l B r A0 S0 mp gs w t q):∀g∈gs,Conc.awake g:=by
 intro g hg;obtain⟨i,hi⟩:=Bme hg;by_cases hi0:i=0
 ·subst hi0;cases hm:mp with
  | none=>obtain⟨x,hx,his⟩:=h.g0 hm;rw[hx]at hi;cases hi;exact Ip his.1
  | some z=>obtain⟨z,f⟩:=z;rw[(h.g0p z f hm).1]at hi;cases hi;exact Qf _ _ _
 ·by_cases hx:∃x∈l,x.j=i/\∃fw cw ρw σw,x.st = .run fw cw ρw σw
  ·obtain⟨x,hx,rfl,fw,cw,ρw,σw,hst⟩:=hx;obtain⟨y,hy,his⟩:=(h.run x hx _ _ _ _ hst).g;rw[hy]at hi;cases hi;exact Ip his.1
  ·have:=h.oth i g hi0 (fun x hxl e=>by
    cases hst:x.st with
    | run fw cw ρw σw=>exact absurd ⟨x,hxl,e,fw,cw,ρw,σw,hst⟩ hx
    | sent v ρw p=>exact⟨v,ρw,p,rfl⟩) hi
   rcases this.status with hs|hs<;>intro t e<;>rw[hs]at e<;>cases e
theorem PhN.offers{j:Nat}{send:Bool}(h:PhN P W0 fr cs Y Z c k l B r A0 S0 mp gs w t q)(hj:j=0∨mp=none):∀i y,i≠j->gs[i]?=some y->offersAt y c send=[]:=fun i y hij hy=>by
 by_cases hi0:i=0
 ·subst hi0;rcases hj with hj|hj
  ·exact absurd hj.symm hij
  ·obtain⟨x,hx,his⟩:=h.g0 hj;rw[hx]at hy;cases hy;exact offersAt_of_not_blocked (by rw[his.1];simp) c send
 ·by_cases hx:∃x∈l,x.j=i/\∃fw cw ρw σw,x.st = .run fw cw ρw σw
  ·obtain⟨x,hx,rfl,fw,cw,ρw,σw,hst⟩:=hx;obtain⟨z,hz,his⟩:=(h.run x hx _ _ _ _ hst).g;rw[hz]at hy;cases hy;exact offersAt_of_not_blocked (by rw[his.1];simp) c send
  ·exact Gi (h.oth i y hi0 (fun x hxl e=>by
    cases hst:x.st with
    | run fw cw ρw σw=>exact absurd ⟨x,hxl,e,fw,cw,ρw,σw,hst⟩ hx
    | sent v ρw p=>exact⟨v,ρw,p,rfl⟩) hy)
theorem PhN.room{x:WK}{fw:Frame}{cw:List Frame}{ρw:Ro}{σw:Own}(h:PhN P W0 fr cs Y Z c k l B r A0 S0 mp gs w t q)(hx:x∈l)(hst:x.st = .run fw cw ρw σw):B.length<l.length:=by
 have hn:(x.j::B.map Prod.fst).Nodup:=by
  refine Tb.2 ⟨fun hb=>?_,h.bn⟩;obtain⟨⟨j,v'⟩,hb,e⟩:=Lp.1 hb;obtain⟨y,hy,a,d,p,b⟩:=h.buf j v' hb;have:=Vo h.jn hy hx (a.trans e);subst this;rw[hst]at b;cases b
 have:=Anh (m:=l.map (·.j)) hn fun j hj=>by
  rcases lZ8.1 hj with rfl|hj
  ·exact Rk (f:=(·.j)) hx
  ·obtain⟨⟨j',v'⟩,hb,rfl⟩:=Lp.1 hj;obtain⟨y,hy,a,_⟩:=h.buf j' v' hb;exact a ▸ Rk (f:=(·.j)) hy
 simp only[Gb,Abj]at this;omega
theorem Avo{i0:Nat}{Rs:List (Value->Ro->Prop)}(hi0:Z[i0]?=some (c,Res.crowd k Rs))
  (hmain:mp=none->∀l B r A0 S0 gs w sl t q,l≠[]->(∀x∈l,Live P c x)->PhN P W0 fr cs Y Z c k l B r A0 S0 none gs w t q->Out P Pst gs t (runT P (crowd gs w sl) 0))
  (hrecv:∀z f,mp=some (z,f)->∀(l:List WK) (i:Nat) (x:WK) v ρw Y' B r A0 S0 gs w sl t q,(∀y∈l,Live P c y)->l.map (·.R)=Rs->l[i]?=some x->x.R v ρw->Ro.le Y Y'->Ro.le ρw Y' ->
   PhN P W0 (fr.finish (recvd f v true)) cs Y' (Z.set i0 (c,.crowd k ((l.eraseIdx i).map (·.R)))) c k (l.eraseIdx i) B r A0 S0 none gs w t q->My P Pst (crowd gs w sl) t) :
  ∀l,l≠[]->(∀x∈l,Live P c x)->∀B r A0 S0 gs w sl t q,PhN P W0 fr cs Y Z c k l B r A0 S0 mp gs w t q->My P Pst (crowd gs w sl) t:=by
 intro l hne E;refine Axg (P:=P) (c:=c) l.length (fun l=>l≠[]->(∀x∈l,Live P c x)->∀B r A0 S0 gs w sl t q,PhN P W0 fr cs Y Z c k l B r A0 S0 mp gs w t q->My P Pst (crowd gs w sl) t) ?_ l rfl E hne E;clear hne E l;intro l hs hne E;have key:∀(m:Nat) B r A0 S0 gs w sl t q,sumTo gs.size q<=m->PhN P W0 fr cs Y Z c k l B r A0 S0 mp gs w t q->My P Pst (crowd gs w sl) t:=by
  have work:∀B r A0 S0 gs w sl t q,PhN P W0 fr cs Y Z c k l B r A0 S0 mp gs w t q->∀x∈l,∀fw cw ρw σw,x.st = .run fw cw ρw σw->Out P Pst gs t (runT P (crowd gs w sl) x.j):=by
   intro B r A0 S0 gs w sl t q h x hx fw cw ρw σw hst;obtain⟨i,hi⟩:=Se hx;obtain⟨K,hf,hk⟩:=hs i x hi;unfold Bwb at hf;rw[hst]at hf;obtain⟨Y',Z',hg,hf⟩:=hf;have X:∀x',l.set i x'≠[]:=fun x' e=>by
    have:=congrArg List.length e;simp only[Xr,Nx]at this;exact hne (Bar this)
   have N:∀x',Live P c x'->∀y∈l.set i x',Live P c y:=fun x' hx' y hy=>by
    rcases Blz hy with h|rfl
    ·exact E y h
    ·exact hx'
   have C:=h.ghostw hg hi hst;have L:(l.set i {x with st:=.run fw cw Y' Z'})[i]?=some {x with st:=.run fw cw Y' Z'}:=by
    have hlt:i<l.length:=by
     rcases Tk i l.length with h'|h'
     ·exact h'
     ·rw[Sr h']at hi;cases hi
    rw[Vc];simp[hlt]
   have hR:=C.run _ (Jy hi) fw cw Y' Z' rfl;obtain⟨g,hgj,his⟩:=hR.g;have hgj:gs[x.j]?=some g:=hgj;have hb:(x.j==0)=false:=by simpa using h.j0 x hx
   rcases hf with⟨K0,a3,I⟩|⟨v,z,hat,hv,⟨n,hq⟩,I⟩
   ·obtain⟨fw',cw',w',es,Zw',e1,e2,e3,e4⟩:=a3 w hR.sat;refine .inl ⟨_,_,runT_crowd_go hgj (by rw[hb,his.step];exact e1),?_⟩;have F:=C.work L rfl e2 e3 g hgj (Is.of fw' cw') g.frame.fn g.frame.place;rw[Aie]at F;obtain⟨H,D⟩:=hk _ (I _ _ _ e4 (fun b=>x.A b∨(w.heap.size<=b/\b<w'.heap.size)));exact D (X _) (N _ H) _ _ _ _ _ _ _ _ _ F
   ·have V:stepG P (x.j==0) g w = .comm (G fw cw) #[scase c v z] true .send w #[]:=by rw[hb,his.step];exact hat w
    obtain⟨cap,tm,hch,U⟩:=h.ch;have hrm:=h.room hx hst;have ee:MemOp.ofEvents x.j g.frame.fn g.frame.place #[] = #[]:=rfl;cases hmp:mp with
    | none =>
     subst hmp;have hp:partners (gs.setIfInBounds x.j ph) c false=[]:=Io (h.offers (.inr rfl));refine .inl ⟨_,_,crowd_send_room hgj V hch (by simp;omega) hp,?_⟩;rw[ee,Ack];have F:=C.send (tm:=tm) (fn:=(G fw cw).frame.fn) (fn':=(G fw cw).frame.fn) (pos:=(G fw cw).frame.place) (pos':=(G fw cw).frame.place) L rfl hv hq (by simpa using U);rw[Aie]at F;obtain⟨H,D⟩:=hk _ (I t.size);exact D (X _) (N _ H) _ _ _ _ _ _ _ _ _ F
    | some zf =>
     obtain⟨z0,f⟩:=zf;subst hmp;obtain⟨M,hB⟩:=h.g0p z0 f rfl;subst hB;have hp:partners (gs.setIfInBounds x.j ph) c false=[(0,0)]:=by
      rw[partners_one (stand_get (Ne.symm (h.j0 x hx)) M) fun m y hm hy=>?_]
      ·simp[offersAt_parked_recv]
      ·rcases getElem?_stand gs x.j m y hy with⟨_,rfl⟩|⟨hmj,hy⟩
       ·rfl
       ·by_cases hxx:∃x∈l,x.j=m/\∃fw cw ρw σw,x.st = .run fw cw ρw σw
        ·obtain⟨x',hx',rfl,_,_,_,_,T⟩:=hxx;obtain⟨z',hz',a0⟩:=(h.run x' hx' _ _ _ _ T).g;rw[hz']at hy;cases hy;exact offersAt_of_not_blocked (by rw[a0.1];simp) c false
        ·exact Gi (h.oth m y hm (fun x' hxl e=>by
          cases T:x'.st with
          | run fw cw ρw σw=>exact absurd ⟨x',hxl,e,fw,cw,ρw,σw,T⟩ hxx
          | sent v ρw p=>exact⟨v,ρw,p,rfl⟩) hy)
     refine .inl ⟨_,_,crowd_send_meets hgj V hch (Ne.symm (h.j0 x hx)) M hp,?_⟩;rw[ee,Ack];generalize hu:(#[{g:=x.j,fn:=(G fw cw).frame.fn,pos:=(G fw cw).frame.place,act:=.send c (r+([]:List (Nat×Value)).length)},{g:=0,fn:=(G fr cs).frame.fn,pos:=(G fr cs).frame.place,act:=.recv c r cap},
      {g:=x.j,fn:=(G fw cw).frame.fn,pos:=(G fw cw).frame.place,act:=.sendDone c (r+([]:List (Nat×Value)).length)},{g:=0,fn:=(G fr cs).frame.fn,pos:=(G fr cs).frame.place,act:=.recvDone c r}]:Trace)=u
     have W:∀op∈u,op.act.touch?=none:=fun op hop=>by
      subst hu;simp only[Aow,lZ8,Xp,or_false]at hop;rcases hop with rfl|rfl|rfl|rfl<;>rfl
     have hwl:Wordless u:=fun op hop m hm=>by
      subst hu;simp only[Aow,lZ8,Xp,or_false]at hop;rcases hop with rfl|rfl|rfl|rfl<;>cases hm
     have YQ:=h.wl.append hwl;have J:(t++u)[t.size]?=some {g:=x.j,fn:=(G fw cw).frame.fn,pos:=(G fw cw).frame.place,act:=.send c r}:=by rw[Amx (Ib _)];subst hu;simp
     have O:(t++u)[t.size+3]?=some {g:=0,fn:=(G fr cs).frame.fn,pos:=(G fr cs).frame.place,act:=.recvDone c r}:=by rw[Amx (by omega)];subst hu;simp
     have hpq:HappensBefore (t++u) t.size (t.size+3):=.single (.inr ⟨.handOver (c:=c) (k:=r) (by simp[Trace.act?,J]) (by simp[Trace.act?,O]),YQ.heard J,YQ.heard O⟩);have hRs:l.map (·.R)=Rs:=by
      have:=h.sat.uniq h.hc (lZ6 hi0);injection this
     have hmR:(l.set i {x with st:=.run fw cw Y' Z'}).map (·.R)=l.map (·.R):=Un hi rfl;have hiR:Z[i0]?=some (c,Res.crowd k ((l.set i {x with st:=.run fw cw Y' Z'}).map (·.R))):=by rw[hmR,hRs];exact hi0
     obtain⟨Y'',q1,q2,H⟩:=C.take (i:=i) (i0:=i0) (p:=t.size) (q0:=t.size+3) (rv:=recvd f v true) (ρw:=Y') (B':=[]) (cap:=cap) (tm:=tm) (u:=u) (q':=Go.ConcN.upd q x.j n)
      (gs':=(gs.setIfInBounds 0 ((G fr cs).finishComm P #[rcase c z0] (.recv f) 0 v true)).setIfInBounds x.j ((G fw cw).finishComm P #[scase c v z] .send 0 undef false))
      L hiR (by simpa using U) hR.sat.ro hR.rw_ (hR.kn.told W (Ib _) J rfl) W hwl O rfl hpq (fun m hm=>by
       obtain⟨op,D,h5⟩:=hm;have hlt:=lt_size_of_getElem? D;exact .inr (hb_po hlt (by rw[getElem?_append_old hlt];exact D) J h5)) (.inl ⟨rfl,rfl⟩)
      ⟨_,by rw[Dw (Ne.symm (h.j0 x hx)),Fq M],by rw[finishComm_recv];exact(Is.of fr cs).served _⟩ (by simp) (fun m a1 hmx=>by rw[Dw hmx,Dw a1])
      (fun y hy=>by
       have h6:((gs.setIfInBounds 0 ((G fr cs).finishComm P #[rcase c z0] (.recv f) 0 v true)).setIfInBounds x.j ((G fw cw).finishComm P #[scase c v z] .send 0 undef false))[x.j]?=some ((G fw cw).finishComm P #[scase c v z] .send 0 undef false) :=
        Fq (y:=g) (by rw[Dw (h.j0 x hx)];exact hgj)
       have h7:some ((G fw cw).finishComm P #[scase c v z] .send 0 undef false)=some y:=h6.symm.trans hy;cases h7;show QuitsIn P (Go.ConcN.upd q x.j n x.j) _;rw[upd_same];exact hq) (fun m hm=>upd_ne q n hm)
     refine hrecv z0 f rfl (l.set i {x with st:=.run fw cw Y' Z'}) i {x with st:=.run fw cw Y' Z'} v Y' Y'' [] (r+1) _ _ _ _ _ _ _ ?_ ?_ L hv q1 q2 H
     ·refine N _ ?_;obtain⟨h8,_⟩:=hk _ (I t.size);exact .mk (fun x'=>K x') ⟨Y',Z',.refl,.inr ⟨v,z,hat,hv,⟨n,hq⟩,I⟩⟩ fun x' hx'=>(hk x' hx').1
     ·rw[hmR,hRs]
  have ZQ:∀B r A0 S0 gs w sl t q,PhN P W0 fr cs Y Z c k l B r A0 S0 mp gs w t q ->
    (∀i g d sl',i≠0->(∀x∈l,x.j=i->∃v ρw p,x.st = .sent v ρw p)->gs[i]?=some g->g.status = .running->Out P Pst gs t (runT P (crowd gs (w.at d) sl') i))->My P Pst (crowd gs w sl) t:=by
   intro B r A0 S0 gs w sl t q h hq;refine Jn h.awake ?_ fun i g d sl' hi hg=>?_
   ·cases hmp:mp with
    | none=>obtain⟨x,hx,his⟩:=h.g0 hmp;exact⟨0,x,hx,his.1⟩
    | some zf =>
     obtain⟨z,f⟩:=zf;obtain⟨_,hB⟩:=h.g0p z f hmp;obtain⟨x,l',rfl⟩:=List.exists_cons_of_ne_nil hne;cases hst:x.st with
     | run fw cw ρw σw =>
      obtain⟨y,hy,his⟩:=(h.run x mC _ _ _ _ hst).g;exact⟨_,y,hy,his.1⟩
     | sent v ρw p =>
      obtain⟨m,op,C,_⟩:=(h.sent x mC _ _ _ hst).at_;rw[hB]at C;cases C
   ·by_cases a:i=0
    ·subst a;cases hmp:mp with
     | none=>subst hmp;exact hmain rfl l B r A0 S0 gs _ sl' t q hne E (h.at_ d)
     | some zf=>obtain⟨z,f⟩:=zf;rw[(h.g0p z f hmp).1]at hi;cases hi;cases hg
    ·by_cases hx:∃x∈l,x.j=i/\∃fw cw ρw σw,x.st = .run fw cw ρw σw
     ·obtain⟨x,hx,rfl,fw,cw,ρw,σw,hst⟩:=hx;exact work B r A0 S0 gs _ sl' t q (h.at_ d) x hx fw cw ρw σw hst
     ·exact hq i g d sl' a (fun x hxl e=>by
       cases hst:x.st with
       | run fw cw ρw σw=>exact absurd ⟨x,hxl,e,fw,cw,ρw,σw,hst⟩ hx
       | sent v ρw p=>exact⟨v,ρw,p,rfl⟩) hi hg
  intro m;induction m with
  | zero =>
   intro B r A0 S0 gs w sl t q hm h;refine ZQ B r A0 S0 gs w sl t q h fun i g d sl' a hil hi hg=>?_;obtain⟨g',n,hk,_⟩:=Hf (w:=w) (sl:=sl) hi a hg (h.oth i g a hil hi);have:=Go.ConcN.le_sumTo (f:=q) (Agh.1 hi).1;omega
  | succ m ih =>
   intro B r A0 S0 gs w sl t q hm h;refine ZQ B r A0 S0 gs w sl t q h fun i g d sl' a hil hi hg=>?_;obtain⟨g',n,hk,hq,a2⟩:=Hf (w:=w.at d) (sl:=sl') hi a hg (h.oth i g a hil hi);refine .inl ⟨_,_,a2,?_⟩;rw[Aea];exact ih _ _ _ _ _ _ sl' t _ (by simpa using Zl hi hk hm) ((h.at_ d).leave hi a hil hq)
 exact fun B r A0 S0 gs w sl t q h=>key _ B r A0 S0 gs w sl t q (Ib _) h
end
end
section
open Go Go.Conc Go.RowKit
open Go.ConcN (sumTo sumTo_upd upd_ne upd_same)
def Agg(P:Program)(W0:World)(Pst:Value->World->Prop):Cy:=fun fr cs Y Z =>
 NoRecv Z/\∀W,Sat Y Z W->Below W0.heap.size W0 W->(∀b∈keys Z,W0.heap.size<=b)->∃v W' es,stepG P true (G fr cs) W = .ended (.done v) W' es/\(∀e∈es,Acx Y Z e)/\Pst v W'
section
variable{P:Program}{Pst:Value->World->Prop}{W0:World}{fr:Frame}{cs:List Frame}{Y:Ro}{Z:Own}
structure Fine(P:Program)(W0:World)(Pst:Value->World->Prop)(fr:Frame)(cs:List Frame)(Y:Ro)(Z:Own):Prop where
 A:∀gs w sl t q,PhA P W0 fr cs Y Z gs w t q->My P Pst (crowd gs w sl) t
 B:∀c vs j Am Aw Sh fw cw ρw σw wp gs w sl t q,WGo P c vs fw cw ρw σw wp->PhB P W0 fr cs Y Z c vs fw cw ρw σw j Am Aw Sh none wp gs w t q->My P Pst (crowd gs w sl) t
 C:∀c j Am Aw Sh pc gs w sl t q,PhC P W0 fr cs Y Z c j Am Aw Sh pc gs w t q->My P Pst (crowd gs w sl) t
 N:∀c k l B r A0 S0 gs w sl t q,l≠[]->(∀x∈l,Live P c x)->PhN P W0 fr cs Y Z c k l B r A0 S0 none gs w t q->My P Pst (crowd gs w sl) t
theorem Pv(hA:∀gs w sl t q,PhA P W0 fr cs Y Z gs w t q->Out P Pst gs t (runT P (crowd gs w sl) 0))
  (hC:∀c j Am Aw Sh pc gs w sl t q,PhC P W0 fr cs Y Z c j Am Aw Sh pc gs w t q->Out P Pst gs t (runT P (crowd gs w sl) 0))
  (hB:(∀c j Am Aw Sh pc gs w sl t q,PhC P W0 fr cs Y Z c j Am Aw Sh pc gs w t q->My P Pst (crowd gs w sl) t) ->
   ∀c vs j Am Aw Sh fw cw ρw σw wp gs w sl t q,WGo P c vs fw cw ρw σw wp->PhB P W0 fr cs Y Z c vs fw cw ρw σw j Am Aw Sh none wp gs w t q->Out P Pst gs t (runT P (crowd gs w sl) 0))
  (hN:∀c k l B r A0 S0 gs w sl t q,l≠[]->(∀x∈l,Live P c x)->PhN P W0 fr cs Y Z c k l B r A0 S0 none gs w t q->Out P Pst gs t (runT P (crowd gs w sl) 0)):Fine P W0 Pst fr cs Y Z:=by
 have hC':∀c j Am Aw Sh pc gs w sl t q,PhC P W0 fr cs Y Z c j Am Aw Sh pc gs w t q->My P Pst (crowd gs w sl) t:=by
  intro c j Am Aw Sh pc gs w sl t q h;obtain⟨g,hg,his⟩:=h.g0;have hw:crowd gs w sl=crowd gs (w.at w.drawn) sl:=rfl;rw[hw];refine Yg (g0:=g) (sz:=gs.size) his.1 (fun gs' q' d sl' a hsz ho=>?_) _ gs _ sl q (Ib _) rfl hg h.oth;exact hC c j Am Aw Sh pc gs' (w.at d) sl' t q' {(h.at_ d) with g0:=⟨g,a,his⟩,oth:=ho}
 refine⟨?_,?_,hC',?_⟩
 ·intro gs w sl t q h;obtain⟨g,hg,his⟩:=h.g0;have hw:crowd gs w sl=crowd gs (w.at w.drawn) sl:=rfl;rw[hw];refine Yg (g0:=g) (sz:=gs.size) his.1 (fun gs' q' d sl' a hsz ho=>?_) _ gs _ sl q (Ib _) rfl hg h.oth;exact hA gs' (w.at d) sl' t q' {(h.at_ d) with g0:=⟨g,a,his⟩,oth:=ho}
 ·intro c vs j Am Aw Sh fw cw ρw σw wp gs w sl t q hW h;cases wp with
  | none =>
   exact Ti hW Am Z (fun _ gs w sl t q fw cw ρw σw Aw wp hW h=>hB hC' c _ j Am Aw Sh fw cw ρw σw wp gs w sl t q hW h) (fun z v vs' e=>by cases e)
    (fun e gs w sl t q Aw pc h=>hC' c j Am Aw Sh pc gs w sl t q h) _ gs w sl t q Aw (Ib _) h
  | some z =>
   obtain⟨v,z⟩:=z;exact Adj (fun gs w sl t q h=>hB hC' c _ j Am Aw Sh fw cw ρw σw (some (v,z)) gs w sl t q hW h) _ gs w sl t q (Ib _) h
 ·intro c k l B r A0 S0 gs w sl t q hne p h;obtain⟨i,hi⟩:=Se h.hc;exact Avo hi (fun _ l B r A0 S0 gs w sl t q b m n=>hN c k l B r A0 S0 gs w sl t q b m n) (fun z f e=>by cases e) l hne p B r A0 S0 gs w sl t q h
theorem Fine.ghost{Y' Z'}(hg:Ghost Y Z Y' Z')(h:Fine P W0 Pst fr cs Y' Z'):Fine P W0 Pst fr cs Y Z :=
 ⟨fun gs w sl t q h'=>h.A gs w sl t q (h'.ghost hg),fun c vs j Am Aw Sh fw cw ρw σw wp gs w sl t q hW h'=>h.B c vs j Am Aw Sh fw cw ρw σw wp gs w sl t q hW (h'.ghost hg),
  fun c j Am Aw Sh pc gs w sl t q h'=>h.C c j Am Aw Sh pc gs w sl t q (h'.ghost hg),fun c k l B r b d gs w sl t q a e h'=>h.N c k l B r b d gs w sl t q a e (h'.ghost hg a)⟩
theorem Aew{K}(hst:Aal (Iw P) fr cs Y Z K)(hK:∀fr' cs' Z',K fr' cs' Z'->Fine P W0 Pst fr' cs' Y Z'):Fine P W0 Pst fr cs Y Z:=by
 refine Pv (fun gs w sl t q h=>?_) (fun c j Am Aw Sh pc gs w sl t q h=>?_) (fun _ c vs j Am Aw Sh fw cw ρw σw wp gs w sl t q hW h=>?_) (fun c k l B r i m gs w sl t q hne f h=>?_)
 ·obtain⟨g,hg,his⟩:=h.g0;obtain⟨fr',cs',w',es,Z',a,b,d,e⟩:=hst w h.sat;have a:stepG P true (G fr cs) w = .go (G fr' cs') w' es:=a;refine .inl ⟨_,_,runT_crowd_go hg (show stepG P (0==0) g w=_ from (his.step w).trans a),?_⟩;exact(hK _ _ _ e).A _ _ _ _ _ (h.main b d g hg (Is.of _ _) _ _)
 ·obtain⟨g,hg,his⟩:=h.g0;obtain⟨fr',cs',w',es,Z',a,b,d,e⟩:=hst w h.sat;have a:stepG P true (G fr cs) w = .go (G fr' cs') w' es:=a;refine .inl ⟨_,_,runT_crowd_go hg (show stepG P (0==0) g w=_ from (his.step w).trans a),?_⟩;exact(hK _ _ _ e).C _ _ _ _ _ _ _ _ _ _ _ (h.main b d g hg (Is.of _ _) _ _)
 ·obtain⟨g,hg,his⟩:=h.g0 rfl;obtain⟨fr',cs',w',es,Z',a,b,d,e⟩:=hst w h.sat;have a:stepG P true (G fr cs) w = .go (G fr' cs') w' es:=a;refine .inl ⟨_,_,runT_crowd_go hg (show stepG P (0==0) g w=_ from (his.step w).trans a),?_⟩;exact(hK _ _ _ e).B _ _ _ _ _ _ _ _ _ _ _ _ _ _ _ _ hW (h.main b d g hg (Is.of _ _) _ _)
 ·obtain⟨g,hg,his⟩:=h.g0 rfl;obtain⟨fr',cs',w',es,Z',a,b,d,e⟩:=hst w h.sat;have a:stepG P true (G fr cs) w = .go (G fr' cs') w' es:=a;refine .inl ⟨_,_,runT_crowd_go hg (show stepG P (0==0) g w=_ from (his.step w).trans a),?_⟩;exact(hK _ _ _ e).N _ _ _ _ _ _ _ _ _ _ _ _ hne f (h.main b d g hg (Is.of _ _) _ _)
theorem PhN.calm{c k r:Nat}{l:List WK}{B:List (Nat×Value)}{A0 S0:Nat->Prop}{mp:Option (Value×Bool)}{gs:Array Goroutine}{w:World}{t:Trace}{q:Nat->Nat}(h:PhN P W0 fr cs Y Z c k l B r A0 S0 mp gs w t q)(hne:l≠[])(hn:NoRecv Z):False :=
 hne (by simpa using hn.crowd _ _ _ h.hc)
theorem Aex(h:Agg P W0 Pst fr cs Y Z):Fine P W0 Pst fr cs Y Z:=by
 obtain⟨hn,hs⟩:=h;refine Pv (fun gs w sl t q h=>?_) (fun c j Am Aw Sh pc gs w sl t q h=>absurd h.hc (hn.recv _ _)) (fun _ c vs j Am Aw Sh fw cw ρw σw wp gs w sl t q hW h=>absurd h.hc (hn.recv _ _)) (fun c k l B r f i gs w sl t q hne m h=>(h.calm hne hn).elim);obtain⟨g,hg,his⟩:=h.g0;obtain⟨v,W',es,a,b,d⟩:=hs w h.sat h.below h.newk;refine .inr ⟨_,_,_,runT_many_ended hg (show stepG P (0==0) g w=_ from (his.step w).trans a),fun p n=>?_⟩;obtain⟨o1,e⟩:=Abe b 0 g.frame.fn g.frame.place;have htr:=h.tr.own o1 fun op hop=>(e op hop).1;refine⟨v,rfl,d,htr.clean,htr.handed,⟨fun x hx=>?_,rfl⟩,fun j x hx hj=>?_⟩
 ·obtain⟨j,hj⟩:=Bmg.1 hx;rw[Att]at hj;exact⟨_,(h.oth (1+j) x (by omega) (by simpa[crowd]using hj)).leaves⟩
 ·have hq:=h.oth j x hj hx;refine⟨q j,?_⟩;rw[htr.wl.deaf];exact hq.hears _ _
theorem Aeu{d i c vs fr'}(hst:∀W,stepG P true (G fr cs) W = .spawn (G fr' cs) (G (Gg P d) []) W #[])(hn:NoRecv Z)(hi:Z[i]?=some (c,Res.chan))(hS:SendI P c vs (Gg P d) [] Y [])(hK:Fine P W0 Pst fr' cs Y (Z.set i (c,.recv vs))):Fine P W0 Pst fr cs Y Z:=by
 have hc:(c,Res.chan)∈Z:=lZ6 hi;refine Pv (fun gs w sl t q h=>?_) (fun c j Am Aw Sh pc gs w sl t q h=>absurd h.hc (hn.recv _ _)) (fun _ c vs j Am Aw Sh fw cw ρw σw wp gs w sl t q hW h=>absurd h.hc (hn.recv _ _)) (fun c k l B r D E gs w sl t q hne F h=>(h.calm hne hn).elim);obtain⟨g,hg,his⟩:=h.g0;refine .inl ⟨_,_,runT_crowd_spawn hg (show stepG P (0==0) g w=_ from (his.step w).trans (hst w)),?_⟩;have hsz:0<gs.size:=(Agh.1 hg).1;have m:=Tt (r':=Res.recv vs) hi;have a:∀p,p∈Z.set i (c,Res.recv vs)->p=(c,.recv vs)∨(p∈Z/\p.1≠c):=fun p hp=>Gq hi h.sat.nd hp;obtain⟨s,r,tm,hch⟩:=h.sat.own _ hc;have C:(c,Res.recv vs)∈Z.set i (c,.recv vs):=by
  have hlt:i<Z.length:=by
   rcases Tk i Z.length with h'|h'
   ·exact h'
   ·rw[Sr h']at hi;cases hi
  exact lZ6 (i:=i) (by rw[Vc];simp[hlt])
 refine hK.B c vs gs.size (fun b=>∃x,(b,x)∈Z/\b≠c) (fun _=>False) (fun b=>(Y b).isSome=true) (Gg P d) [] Y [] none _ _ _ _ q hS {
  g0:=fun _=>⟨G fr' cs,by rw[Bav];simp only[Awz,Aif hsz,if_false];exact Fq hg,Is.of _ _⟩
  g0p:=fun z e=>by cases e
  gj:=fun _=>⟨G (Gg P d) [],by rw[Bav];simp,Is.of _ _⟩
  gjp:=fun v z e=>by cases e
  j0:=by omega
  oth:=fun k x hk hkj hx=>by
   have hk':gs[k]?=some x:=by
    rw[Bav]at hx;simp only[Awz,hkj,if_false]at hx
    rwa[Bhd (Ne.symm hk)]at hx
   exact h.oth k x hk hk'
  sat:=?_
  satw:=⟨h.sat.ro,fun p hp=>absurd hp Xp,Aqn,fun b hb=>absurd hb Xp⟩
  ch:=⟨s,r,tm,hch⟩
  hc:=C
  one:=fun c' vs' hc'=>by
   rcases a _ hc' with e|⟨hc'',_⟩
   ·injection e
   ·exact absurd hc'' (hn.recv _ _)
  nrw:=.nil
  ncr:=fun c' k Rs hc'=>by
   rcases a _ hc' with e|⟨hc'',_⟩
   ·cases e
   ·exact hn.crowd _ _ _ hc''
  newk:=by rw[m];exact h.newk
  neww:=fun b hb=>by cases hb
  below:=h.below
  am:=fun b x hb hx=>by
   rcases a _ hb with e|⟨hb',hbc⟩
   ·injection e with _ e;exact absurd e (hx vs)
   ·exact⟨x,hb',hbc⟩
  aw:=fun b hb=>by cases hb
  rm:=fun b hb=>.inl hb
  rw_:=fun b hb=>.inl hb
  dmw:=fun b _ h=>h
  dms:=fun b ⟨x,f,_⟩ n=>by rw[h.sat.dj b (Du f)]at n;cases n
  dws:=fun b h _=>h
  ncm:=fun⟨x,_,f⟩=>f rfl
  ncw:=id
  ncs:=by rw[h.sat.dj c (Du hc)];simp
  lt:=fun b hb=>by
   rcases hb with⟨x,hb,_⟩|hb|hb
   ·exact h.sat.key_lt (Du hb)
   ·exact hb.elim
   ·obtain⟨o,ho⟩:=Bat.1 hb;exact Dq (h.sat.ro b o ho).1
  tr:=?_ }
 ·refine⟨h.sat.ro,fun p hp=>?_,by rw[m];exact h.sat.nd,by rw[m];exact h.sat.dj⟩;rcases a p hp with rfl|⟨hp',_⟩
  ·exact⟨s,r,false,tm,hch⟩
  ·exact h.sat.own p hp'
 ·have u:MemOp.ofEvents 0 g.frame.fn g.frame.place #[] = #[]:=rfl;rw[u];exact h.tr.fork (by omega) (x:={g:=0,fn:=g.frame.fn,pos:=g.frame.place,act:=.go gs.size}) (y:={g:=gs.size,fn:=(G (Gg P d) []).frame.fn,pos:=g.frame.place,act:=.start}) ⟨rfl,rfl⟩ ⟨rfl,rfl⟩
theorem Aev{i c v z vs}(hst:Sv P c z fr cs)(hi:Z[i]?=some (c,Res.recv (v::vs)))(hK:Fine P W0 Pst (fr.finish (.tuple #[v,.bool true])) cs Y (Z.set i (c,.recv vs))):Fine P W0 Pst fr cs Y Z:=by
 have hc:(c,Res.recv (v::vs))∈Z:=lZ6 hi;refine Pv (fun gs w sl t q h=>absurd hc (h.nr.recv _ _)) (fun c' j Am Aw Sh pc gs w sl t q h=>?_) (fun hC c' vs' j Am Aw Sh fw cw ρw σw wp gs w sl t q hW h=>?_) (fun c' k l B r n u gs w sl t q _ _ h=>absurd hc (h.nr _ _))
 ·obtain rfl:=h.one _ _ hc;exact absurd (h.sat.uniq hc h.hc) (by simp)
 ·obtain rfl:=h.one _ _ hc;have e:vs'=v::vs:=by
   have:=h.sat.uniq h.hc hc;injection this
  subst e;obtain⟨g,hg,his⟩:=h.g0 rfl;obtain⟨s,r,tm,hch⟩:=h.ch;have b:stepG P (0==0) g w = .comm (G fr cs) #[rcase c z] true (.recv true) w #[]:=(his.step w).trans (hst w);cases wp with
  | none =>
   obtain⟨x,hx,d⟩:=h.gj rfl;have hp:partners (gs.setIfInBounds 0 ph) c true=[]:=Io fun k y hk hy=>by
    by_cases hkj:k=j
    ·subst hkj;rw[hx]at hy;cases hy;exact offersAt_of_not_blocked (by rw[d.1];simp) c true
    ·exact Gi (h.oth k y hk hkj hy)
   refine .inl ⟨_,_,crowd_waits hg b fun cc hcc=>?_,?_⟩
   ·have:cc=rcase c z:=by simpa using hcc
    subst this;exact ways_recv_none hch hp
   ·have a:MemOp.ofEvents 0 g.frame.fn g.frame.place #[] = #[]:=rfl;rw[a,Aea];refine Ti (mp:=some z) (fr:=fr) (cs:=cs) (Y:=Y) (j:=j) (Sh:=Sh) (W0:=W0) hW Am Z (fun e=>by cases e) (fun z' v' vs' _ e=>?_) (fun e=>by cases e) _ _ _ _ _ q Aw (Ib _) ?_
    ·injection e with a e2;subst a e2;exact⟨i,hi,fun gs w sl t q fw cw ρw σw Aw hS h'=>hK.B _ _ _ _ _ _ _ _ _ _ _ _ _ _ _ _ (show WGo P c vs fw cw ρw σw none from hS) h'⟩
    ·exact { h with
      g0:=fun e=>by cases e
      g0p:=fun z' e=>by cases e;exact Fq hg
      gj:=fun _=>⟨x,by rw[Dw h.j0];exact hx,d⟩
      gjp:=fun v z e=>by cases e
      oth:=fun k y hk hkj hy=>by rw[Dw hk]at hy;exact h.oth k y hk hkj hy }
  | some p =>
   obtain⟨C,z0⟩:=p;obtain⟨D,e,hS⟩:=hW;injection e with a e2;subst a e2;have hj:=h.gjp v z0 rfl;have hp:partners (gs.setIfInBounds 0 ph) c true=[(j,0)]:=by
    rw[partners_one (stand_get h.j0 hj) fun k y hk hy=>?_]
    ·simp[offersAt_parked_send]
    ·rcases getElem?_stand gs 0 k y hy with⟨_,rfl⟩|⟨f,hy⟩
     ·rfl
     ·exact Gi (h.oth k y f hk hy)
   refine .inl ⟨_,_,crowd_recv_meets hg b hch h.j0 hj hp,?_⟩;refine hK.B _ _ _ _ _ _ _ _ _ _ _ _ _ _ _ q (show WGo P c vs _ cw ρw σw none from hS) (h.meet hi ?_ ?_ ?_ ?_ ?_)
   ·refine⟨_,?_,(Is.of fr cs).served _⟩;rw[Fq (y:=g) (by rw[Dw (Ne.symm h.j0)];exact hg)];rfl
   ·refine⟨_,?_,(Is.of fw cw).served _⟩;rw[Dw h.j0,Fq hj];rfl
   ·intro k hk hkj;rw[Dw hk,Dw hkj]
   ·intro op hop m hm;have:MemOp.ofEvents 0 g.frame.fn g.frame.place #[] = #[]:=rfl;simp only[this,Ack]at hop;simp only[Aow,lZ8,Xp,or_false]at hop;rcases hop with rfl|rfl|rfl|rfl<;>cases hm
   ·intro op hop;have:MemOp.ofEvents 0 g.frame.fn g.frame.place #[] = #[]:=rfl;simp only[this,Ack]at hop;simp only[Aow,lZ8,Xp,or_false]at hop;rcases hop with rfl|rfl|rfl|rfl<;>rfl
theorem TC.ended{t j c pc Aw Sh}(h:TC t j c pc Aw Sh){x}(hx:x.g=0/\x.act = .recvClosed c):TA (t ++ #[x]):=by
 have hwl:Wordless #[x]:=fun op hop m hm=>by
  have:op=x:=by simpa using hop
  subst this;rw[hx.2]at hm;cases hm
 have k:∀op ∈ #[x],op.act.touch?=none:=fun op hop=>by
  have:op=x:=by simpa using hop
  subst this;rw[hx.2];rfl
 have b:=h.wl.append hwl;have d:(t ++ #[x])[t.size]?=some x:=by rw[Amx (Ib _)];simp
 obtain⟨op,e,q,n⟩:=h.at_;have hpc:=lt_size_of_getElem? e;have f:(t ++ #[x])[pc]?=some op:=by rw[getElem?_append_old hpc];exact e
 have hcl:HappensBefore (t ++ #[x]) pc t.size:=.single (.inr ⟨.closed (c:=c) (by rw[Trace.act?,f];simp[n]) (by rw[Trace.act?,d];simp[hx.2]),b.heard f,b.heard d⟩);refine⟨b,fun p=>Ni (h.clean p) k,fun i a ha hm=>?_⟩;rcases Di ha with h4|⟨op,_,h4,h5,_⟩
 ·rcases h.k0 i a h4 hm with h5|⟨h5,_⟩
  ·exact h5.app _
  ·exact⟨t.size,x,d,hx.1,.inr ((h5.app _).hb hcl)⟩
 ·rw[k op h4]at h5;cases h5
theorem Ph{Z i c x}(hi:Z[i]?=some (c,x))(nd:(keys Z).Nodup){p}(hp:p∈Z.eraseIdx i):p∈Z/\p.1≠c:=by
 induction Z generalizing i with
 | nil=>cases hi
 | cons a Z ih =>
  simp only[keys,Ic,Tb]at nd;cases i with
  | zero =>
   simp only[Bhe,Option.some.injEq]at hi;subst hi;simp only[List.eraseIdx_zero,List.tail_cons]at hp;exact⟨lZ0 _ hp,fun e=>nd.1 (Lp.2 ⟨p,hp,e⟩)⟩
  | succ i =>
   simp only[Xm]at hi;simp only[List.eraseIdx_cons_succ,lZ8]at hp;rcases hp with rfl|hp
   ·exact⟨Vb ..,fun e=>nd.1 (by rw[e];exact Lp.2 ⟨_,lZ6 hi,rfl⟩)⟩
   ·obtain⟨b,d⟩:=ih hi nd.2 hp;exact⟨lZ0 _ b,d⟩
theorem Aet{i c z}(hst:Sv P c z fr cs)(hi:Z[i]?=some (c,Res.recv []))(hK:Fine P W0 Pst (fr.finish (.tuple #[z,.bool false])) cs Y (Z.eraseIdx i)):Fine P W0 Pst fr cs Y Z:=by
 have hc:(c,Res.recv [])∈Z:=lZ6 hi;refine Pv (fun gs w sl t q h=>absurd hc (h.nr.recv _ _)) (fun c' j Am Aw Sh pc gs w sl t q h=>?_) (fun hC c' vs' j Am Aw Sh fw cw ρw σw wp gs w sl t q hW h=>?_) (fun c' k l B r E F gs w sl t q _ _ h=>absurd hc (h.nr _ _))
 ·obtain rfl:=h.one _ _ hc;obtain⟨g,hg,his⟩:=h.g0;obtain⟨s,r,tm,hch⟩:=h.ch;have m:stepG P (0==0) g w = .comm (G fr cs) #[rcase c z] true (.recv true) w #[]:=(his.step w).trans (hst w);have hp:partners (gs.setIfInBounds 0 ph) c true=[]:=Io fun k y hk hy=>Gi (h.oth k y hk hy);refine .inl ⟨_,_,crowd_recv_closed hg m hch hp,?_⟩;have d:MemOp.ofEvents 0 g.frame.fn g.frame.place #[] = #[]:=rfl;rw[d,Ack];have a:∀p,p∈Z.eraseIdx i->p∈Z/\p.1≠c:=fun p hp=>Ph hi h.sat.nd hp;have u:∀b∈keys (Z.eraseIdx i),b∈keys Z:=fun b hb=>by
   obtain⟨p,hp,rfl⟩:=Lp.1 hb;exact Rk (f:=Prod.fst) (a p hp).1
  exact hK.A _ _ _ _ q {
   g0:=⟨_,by rw[Fq hg];rfl,(Is.of fr cs).served _⟩
   oth:=fun k y hk hy=>by rw[Dw hk]at hy;exact h.oth k y hk hy
   sat:=⟨h.sat.ro,fun p hp=>h.sat.own p (a p hp).1,(List.Sublist.map Prod.fst (List.eraseIdx_sublist Z i)).nodup h.sat.nd,fun b hb=>h.sat.dj b (u b hb)⟩
   nr:=⟨fun c' vs' hc'=>by
    obtain⟨C,D⟩:=a _ hc';exact D (h.one _ _ C),fun c' k Rs hc'=>h.ncr c' k Rs (a _ hc').1⟩
   newk:=fun b hb=>h.newk b (u b hb)
   below:=h.below
   tr:=h.tr.ended ⟨rfl,rfl⟩ }
 ·obtain rfl:=h.one _ _ hc;have e:vs'=[]:=by
   have:=h.sat.uniq h.hc hc;injection this
  subst e;obtain⟨g,hg,his⟩:=h.g0 rfl;obtain⟨s,r,tm,hch⟩:=h.ch;have m:stepG P (0==0) g w = .comm (G fr cs) #[rcase c z] true (.recv true) w #[]:=(his.step w).trans (hst w);cases wp with
  | none =>
   obtain⟨x,hx,n⟩:=h.gj rfl;have hp:partners (gs.setIfInBounds 0 ph) c true=[]:=Io fun k y hk hy=>by
    by_cases hkj:k=j
    ·subst hkj;rw[hx]at hy;cases hy;exact offersAt_of_not_blocked (by rw[n.1];simp) c true
    ·exact Gi (h.oth k y hk hkj hy)
   refine .inl ⟨_,_,crowd_waits hg m fun cc hcc=>?_,?_⟩
   ·have:cc=rcase c z:=by simpa using hcc
    subst this;exact ways_recv_none hch hp
   ·have d:MemOp.ofEvents 0 g.frame.fn g.frame.place #[] = #[]:=rfl;rw[d,Aea];refine Ti (mp:=some z) (fr:=fr) (cs:=cs) (Y:=Y) (j:=j) (Sh:=Sh) (W0:=W0) hW Am Z (fun e=>by cases e) (fun z' v' vs' _ e=>by cases e) (fun _ gs w sl t q Aw pc h'=>hC _ _ _ _ _ _ _ _ _ _ _ h') _ _ _ _ _ q Aw (Ib _) ?_;exact { h with
      g0:=fun e=>by cases e
      g0p:=fun z' e=>by cases e;exact Fq hg
      gj:=fun _=>⟨x,by rw[Dw h.j0];exact hx,n⟩
      gjp:=fun v z e=>by cases e
      oth:=fun k y hk hkj hy=>by rw[Dw hk]at hy;exact h.oth k y hk hkj hy }
  | some p =>
   obtain⟨H,z0⟩:=p;obtain⟨I,e,_⟩:=hW;cases e
theorem Azx{d:Deferred}{i c k:Nat}{Rs:List (Value->Ro->Prop)}{R:Value->Ro->Prop}{fr':Frame}(hst:∀W,stepG P true (G fr cs) W = .spawn (G fr' cs) (G (Gg P d) []) W #[])(hn:∀c vs,(c,Res.recv vs)∉Z)
  (hone:∀c' k' Rs',(c',Res.crowd k' Rs')∈Z->Rs'≠[]->c'=c) (hi:Z[i]?=some (c,Res.crowd (k+1) Rs)) (hM:MsgI P c R (Gg P d) [] Y []) (hK:Fine P W0 Pst fr' cs Y (Z.set i (c,.crowd k (Rs++[R])))):Fine P W0 Pst fr cs Y Z:=by
 have hc:(c,Res.crowd (k+1) Rs)∈Z:=lZ6 hi;have key:∀l B r a f gs w sl t q,(∀x∈l,Live P c x)->l.map (·.R)=Rs->PhN P W0 fr cs Y Z c (k+1) l B r a f none gs w t q->Out P Pst gs t (runT P (crowd gs w sl) 0):=by
  intro l B r a f gs w sl t q p hR h;subst hR;obtain⟨g,hg,his⟩:=h.g0 rfl;refine .inl ⟨_,_,runT_crowd_spawn hg (show stepG P (0==0) g w=_ from (his.step w).trans (hst w)),?_⟩;have n:MemOp.ofEvents 0 g.frame.fn g.frame.place #[] = #[]:=rfl;rw[n];have m:=h.fork (d:=d) (fr':=fr') (R:=R) (fn:=g.frame.fn) (fn':=(G (Gg P d) []).frame.fn) (pos:=g.frame.place) (pos':=g.frame.place) hi rfl;rw[show (l++[(⟨gs.size,R,fun _=>False,fun b=>(Y b).isSome=true,.run (Gg P d) [] Y []⟩:WK)]).map (·.R)=l.map (·.R)++[R] by simp]at m;exact hK.N _ _ _ _ _ _ _ _ _ _ _ _ (by simp) (fun x hx=>by
   rcases Gv.1 hx with hx|hx
   ·exact p x hx
   ·rw[Nh.1 hx];exact Live.of_msg hM _ _ _) m
 refine Pv (fun gs w sl t q h=>?_) (fun c' j Am Aw Sh pc gs w sl t q h=>absurd h.hc (hn _ _)) (fun _ c' vs j Am Aw Sh fw cw ρw σw wp gs w sl t q hW h=>absurd h.hc (hn _ _)) (fun c' k' l B r a f gs w sl t q hne p h=>?_)
 ·have hR:=h.nr.crowd _ _ _ hc;subst hR;obtain⟨r,m⟩:=h.toN hc;exact key [] [] r _ _ gs w sl t q (fun x hx=>by cases hx) rfl m
 ·have e:=hone _ _ _ h.hc (by simpa using hne);subst e;have e:=h.sat.uniq h.hc hc;injection e with n e2;subst n;exact key l B r a f gs w sl t q p e2 h
theorem Azz{i c k:Nat}{Rs:List (Value->Ro->Prop)}{z:Value}{f:Bool}(hst:Asl P c z f fr cs)(hi:Z[i]?=some (c,Res.crowd k Rs))(hne:Rs≠[])
  (hK:∀(n:Nat) R v Y1 Y',Rs[n]?=some R->R v Y1->Ro.le Y Y'->Ro.le Y1 Y'->Fine P W0 Pst (fr.finish (recvd f v true)) cs Y' (Z.set i (c,.crowd k (Rs.eraseIdx n)))):Fine P W0 Pst fr cs Y Z:=by
 have hc:(c,Res.crowd k Rs)∈Z:=lZ6 hi;have next:∀(l:List WK) (m:Nat) x v ρw Y' B r a b gs w sl t q,(∀y∈l,Live P c y)->l.map (·.R)=Rs->l[m]?=some x->x.R v ρw->Ro.le Y Y'->Ro.le ρw Y' ->
   PhN P W0 (fr.finish (recvd f v true)) cs Y' (Z.set i (c,.crowd k ((l.eraseIdx m).map (·.R)))) c k (l.eraseIdx m) B r a b none gs w t q->My P Pst (crowd gs w sl) t:=by
  intro l m x v ρw Y' B r a b gs w sl t q d hR hm hv X YQ h;have hF:=hK m x.R v ρw Y' (by rw[<-hR,Pb,hm];rfl) hv X YQ;rw[Wi,hR]at h;by_cases hl:l.eraseIdx m=[]
  ·rw[hl]at h;exact hF.A _ _ _ _ _ h.toA
  ·exact hF.N _ _ _ _ _ _ _ _ _ _ _ _ hl (fun y hy=>d y (List.mem_of_mem_eraseIdx hy)) h
 refine Pv (fun gs w sl t q h=>absurd (h.nr.crowd _ _ _ hc) hne) (fun c' j Am Aw Sh pc gs w sl t q h=>absurd (h.ncr _ _ _ hc) hne) (fun _ c' vs j Am Aw Sh fw cw ρw σw wp gs w sl t q hW h=>absurd (h.ncr _ _ _ hc) hne) (fun c' k' l B r a b gs w sl t q aa d h=>?_);have e:=h.one _ _ _ hc hne;subst e;have e:=h.sat.uniq h.hc hc;injection e with e1 hR;subst e1;obtain⟨g,hg,his⟩:=h.g0 rfl;obtain⟨cap,tm,hch,a8⟩:=h.ch;have H:stepG P (0==0) g w = .comm (G fr cs) #[rcase c z] true (.recv f) w #[]:=(his.step w).trans (hst w);have hp:partners (gs.setIfInBounds 0 ph) c true=[]:=Io (h.offers (.inl rfl));have ee:MemOp.ofEvents 0 g.frame.fn g.frame.place #[] = #[]:=rfl;cases hB:B with
 | nil =>
  subst hB;refine .inl ⟨_,_,crowd_waits hg H fun cc hcc=>?_,?_⟩
  ·have:cc=rcase c z:=by simpa using hcc
   subst this;refine⟨made_recv z hch,?_⟩;simp[ways,rcase,hch,hp]
  ·rw[ee,Aea];refine Avo (W0:=W0) (fr:=fr) (cs:=cs) (Y:=Y) (mp:=some (z,f)) hi (fun e=>by cases e) (fun z' f' e l' m x v ρw Y' B r a b gs w sl t q K L M O T U V=>?_) l aa d [] r a b _ _ _ _ q ?_
   ·cases e;exact next l' m x v ρw Y' B r a b gs w sl t q K L M O T U V
   ·exact { h with
     g0:=fun e=>by cases e
     g0p:=fun z' f' e=>by cases e;exact⟨Fq hg,rfl⟩
     oth:=fun m y hm d hy=>by rw[Dw hm]at hy;exact h.oth m y hm d hy
     jl:=fun x hx=>by simpa using h.jl x hx
     run:=fun x hx fw cw ρw σw e=>{ h.run x hx fw cw ρw σw e with
      g:=by
       obtain⟨y,hy,hi⟩:=(h.run x hx fw cw ρw σw e).g;exact⟨y,by rw[Dw (h.j0 x hx)];exact hy,hi⟩ } }
 | cons b0 B' =>
  obtain⟨j,v⟩:=b0;subst hB;obtain⟨x,hx,hxj,ρw,p,hsx⟩:=h.buf j v mC;subst hxj;obtain⟨m,hm⟩:=Se hx;have hS:=h.sent x hx v ρw p hsx;obtain⟨mm,op,D,E,W⟩:=hS.at_;have hmm:mm=0:=by
   cases mm with
   | zero=>rfl
   | succ mm =>
    rw[Xm]at D;have:=h.bn;rw[Ic,Tb]at this;exact absurd (Rk (f:=Prod.fst) (lZ6 D)) this.1
  subst hmm;refine .inl ⟨_,_,crowd_recv_buf hg H hch (by simp) hp,?_⟩;rw[ee,Ack];generalize hu:(#[{g:=0,fn:=(G fr cs).frame.fn,pos:=(G fr cs).frame.place,act:=.recv c r cap},{g:=0,fn:=(G fr cs).frame.fn,pos:=(G fr cs).frame.place,act:=.recvDone c r}]:Trace)=u;have I:∀op∈u,op.act.touch?=none:=fun op hop=>by
   subst hu;simp only[Aow,lZ8,Xp,or_false]at hop;rcases hop with rfl|rfl<;>rfl
  have hwl:Wordless u:=fun op hop m hm=>by
   subst hu;simp only[Aow,lZ8,Xp,or_false]at hop;rcases hop with rfl|rfl<;>cases hm
  have J:=h.wl.append hwl;have F:(t++u)[p]?=some op:=by rw[getElem?_append_old (lt_size_of_getElem? E)];exact E
  have C:(t++u)[t.size+1]?=some {g:=0,fn:=(G fr cs).frame.fn,pos:=(G fr cs).frame.place,act:=.recvDone c r}:=by rw[Amx (by omega)];subst hu;simp
  have hpq:HappensBefore (t++u) p (t.size+1):=.single (.inr ⟨.handOver (c:=c) (k:=r) (by rw[Trace.act?,F];simp[W]) (by simp[Trace.act?,C]),J.heard F,J.heard C⟩);obtain⟨Y'',q1,q2,ZQ⟩:=h.take (i:=m) (i0:=i) (p:=p) (q0:=t.size+1) (rv:=recvd f v true) (ρw:=ρw) (B':=B') (cap:=cap) (tm:=tm) (u:=u) (q':=q)
   (gs':=gs.setIfInBounds 0 ((G fr cs).finishComm P #[rcase c z] (.recv f) 0 v true))
   hm (by rw[hR];exact hi) a8 hS.sat hS.rw_ (hS.kp.other (Ib _) (Oq I)) I hwl C rfl hpq (fun m' hm'=>by
    unfold AlOk at hm';rw[hsx]at hm';exact Before.app u hm') (.inr ⟨v,rfl⟩)
   ⟨_,Fq hg,by rw[finishComm_recv];exact(Is.of fr cs).served _⟩ (by simp) (fun m' a9 _=>by rw[Dw a9])
   (fun y hy=>by
    rw[Dw (h.j0 x hx)]at hy;exact h.oth x.j y (h.j0 x hx) (fun x' hx' e=>by have:=Vo h.jn hx' hx e;subst this;exact⟨v,ρw,p,hsx⟩) hy) (fun m' _=>rfl)
  have a0:((((x.j,v)::B').map Prod.snd).toArray.extract 1 (((x.j,v)::B').map Prod.snd).toArray.size)=(B'.map Prod.snd).toArray:=by simp[Atr]
  rw[a0,show r+((x.j,v)::B').length=r+1+B'.length by simp only[Gb];omega];have hgd:(((x.j,v)::B').map Prod.snd).toArray.getD 0 undef=v:=by simp
  rw[hgd];exact next l m x v ρw Y'' B' (r+1) _ _ _ _ _ _ q d hR hm hS.val q1 q2 ZQ
theorem Blc{K:Cy}(h1:Ade P fr cs Y Z K)(ih:∀fr' cs' Y' Z',K fr' cs' Y' Z'->Fine P W0 Pst fr' cs' Y' Z'):Fine P W0 Pst fr cs Y Z:=by
 rcases h1 with⟨d,i,c,vs,fr',h1,a,b,e,g⟩|⟨i,c,v,vs,z,h1,a,b⟩|⟨i,c,z,h1,a,b⟩|⟨d,i,c,k,Rs,R,fr',h1,a,b,e,g,q⟩|⟨i,c,k,Rs,z,f,h1,a,b,e⟩
 ·exact Aeu h1 a b e (ih _ _ _ _ g)
 ·exact Aev h1 a (ih _ _ _ _ b)
 ·exact Aet h1 a (ih _ _ _ _ b)
 ·exact Azx h1 a b e g (ih _ _ _ _ q)
 ·exact Azz h1 a b fun n R v t Y' h j m p=>ih _ _ _ _ (e n R v t Y' h j m p)
end
end
section
section
variable{C:Ctx}{e:Env}{ds:List Deferred}{Y:Ro}{Z:Own}{K:Value->List Deferred->Ro->Own->Prop}{rd:Option Nat}{dd:Option Tmp}
variable{ty:TypeId}{pos:String}{af:Array Edge}{g:Option (Nat×Bool)}{x y:Operand}{v p:Value}{t t':TypeId}{P:Program}
theorem Qm{v}(h:single v=true):v.cells = #[v]:=by cases v<;>first|rfl|(simp[single]at h)
theorem Cz{c:List Value}{r off j}(hz:∃i,C.P.info? t=some i/\i.size=1)(hx:Af e x = .pointer (some ⟨r,off,none⟩))(hy:Af e y=v)(hs:single v=true)(hj:Z[j]?=some (r,.obj (.cells c.toArray t' (0,0))))(hl:off<c.length)(h:K undef ds Y (Z.set j (r,.obj (.cells (c.set off v).toArray t' (0,0))))):
  wpS C.P Y (execOp (Af e) ⟨dd,.store t x y,ty,pos,af,g⟩) Z (NextH C K rd ds Y):=by refine Li (vs:=[v]) (c:=c) (c':=c.set off v) hz hx hy (Qm hs) rfl (by simpa using hs) hj (by simpa using Nat.succ_le_of_lt hl) ?_ h;simp only[over]
theorem Ajx{k p q tys}(hx:Af e x = .int k p)(hy:Af e y = .int k q):Yld P Y e (.call ⟨.builtin .min,#[x,y],tys⟩) ty (.int k (min p q)):=by
 refine Mc (args:=[x,y]) (vs:=[.int k p,.int k q]) (s:=fun _=>pure (.int k (min p q))) (by simp[hx,hy]) (fun cs=>?_) ?_
 ·have a:builtin .min tys ty cs [.int k p,.int k q].toArray=(Builtin.min_ tys ty #[.int k p,.int k q]).bind fun v=>Sem.pure (Next.value v):=rfl;rw[a];have b:Builtin.min_ tys ty #[.int k p,.int k q]=pure (.int k (min p q)):=by
   simp only[Builtin.min_,Aqk,List.foldlM_nil,Builtin.min2];have:(if q<p then q else p)=min p q:=by split<;>omega
   rw[this];rfl
  rw[b]
 ·exact fun cs Y' Z' _=>⟨rfl,rfl⟩
def Wu(P:Program):List Field->List Nat->Prop
 | [],[]=>True
 | f::fs,n::ns=>(∃i,P.info? f.type=some i/\i.size=n)/\Wu P fs ns
 | _,_=>False
def Gs:List Field->List Nat->List (Nat×Nat)
 | f::fs,n::ns=>(f.offset,n)::Gs fs ns
 | _,_=>[]
theorem Ux{P:Program}{Q:Array (Nat×Nat)->Own->Prop}:∀(fs:List Field) (ns:List Nat) (acc:Array (Nat×Nat)),Wu P fs ns->Q (acc++(Gs fs ns).toArray) Z ->
  wpS P Y (List.foldlM (m:=Sem) (fun (bs:Array (Nat×Nat)) (f:Field)=>Functor.map bs.push (do pure (f.offset,<-sizeOf f.type))) acc fs) Z Q
 | [],[],acc,_,h=>by
  have e1:acc++(Gs [] []).toArray=acc:=by simp[Gs]
  rw[e1]at h;exact h
 | f::fs,n::ns,acc,hs,h=>by
  rw[Aqk];show wpS P Y (Sem.bind _ _) Z Q;rw[Ad];show wpS P Y (Sem.bind (Sem.bind (sizeOf f.type) _) _) Z _;rw[Ad,Ad];refine Dx hs.1 ?_;show wpS P Y (List.foldlM _ (acc.push (f.offset,n)) fs) Z Q;refine Ux fs ns _ hs.2 ?_;have e1:acc.push (f.offset,n)++(Gs fs ns).toArray=acc++(Gs (f::fs) (n::ns)).toArray:=by
   apply Array.ext';simp[Gs]
  rw[e1];exact h
theorem Be{place c cs i off v rest}(hv:v.cells=cs.toArray)(hp:place i=some (off,cs.length))(hl:off+cs.length<=c.length):
  Instr.fill place c.toArray ((i,v)::rest)=Instr.fill place (over c off cs).toArray rest:=by
 simp only[Instr.fill,hp,hv];have a:(decide (cs.toArray.size≠cs.length)||decide (off+cs.toArray.size>c.toArray.size))=false:=by
  simp only[Aiy,Awm,decide_eq_false_iff_not];exact⟨by simp,by omega⟩
 rw[if_neg (by simpa using a)];congr 1;have:=Pd cs c off 0;rw[<-Array.foldl_toList];simp only[Array.toList_zipIdx,Awq];rw[this,Abk]
theorem Dn{fs ns z}{zc cs:List Value}{ps:List (Nat×Operand)}{vs}(hT:P.underlying t=some (.struct fs.toArray))(hz:Fw P t z)(hzc:z.cells=zc.toArray)(hn:Wu P fs ns)(hp:ps.map (fun p=>(p.1,Af e p.2))=vs)(hf:Instr.fill ((Gs fs ns)[·]?) zc.toArray vs=some cs.toArray):Yld P Y e (.build t ps.toArray) ty (.agg cs.toArray) :=
 Mt (s:=Instr.build t (ps.toArray.map fun (p:Nat×Operand)=>(p.1,Af e p.2))) (fun _ _ _ _=>rfl) fun Y' Z _=>by
  have hps:(ps.toArray.map fun (p:Nat×Operand)=>(p.1,Af e p.2))=vs.toArray:=by rw[<-hp];simp
  rw[hps];unfold Instr.build;show wpS P Y' ((zeroValue t).bind _) Z _;rw[Ad];refine Jz hz ?_;show wpS P Y' ((underlying t).bind _) Z _;rw[Ad];refine Az hT ?_;dsimp only;show wpS P Y' (Sem.bind _ _) Z _;rw[Ad,Bau,Bmm];refine Ux fs ns #[] hn ?_;have a:(fun (x:Nat)=>(#[]++(Gs fs ns).toArray)[x]?)=fun (x:Nat)=>(Gs fs ns)[x]?:=by funext x;simp
  simp only[a,hzc,hf];exact⟨rfl,rfl⟩
def EvB(e:Env):List (Nat×Operand)->List (Nat×Value)->Prop
 | [],[]=>True
 | p::ps,q::qs=>(p.1=q.1/\Af e p.2=q.2)/\EvB e ps qs
 | _,_=>False
theorem EvB.map{e:Env}:∀{ps:List (Nat×Operand)} {qs:List (Nat×Value)},EvB e ps qs->ps.map (fun p=>(p.1,Af e p.2))=qs
 | [],[],_=>rfl
 | p::ps,q::qs,h=>by
  rw[Ic,EvB.map h.2,h.1.1,h.1.2]
 | [],_::_,h=>h.elim
 | _::_,[],h=>h.elim
theorem Grow.single{α}[Dat α]{Y el v}{xs:List α}{gr}(h:Grow Y el v xs gr):single v=true:=by rcases h.2.2 with⟨a,_⟩|⟨r,cap,cs,rs,gb,a,_⟩<;>rw[a]<;>rfl
theorem Cb{r off off0 off' i fs f n'}(hT:P.underlying t=some (.struct fs))(hi:fs[i]?=some f)(ho:f.offset=off0)(hF:∃i,P.info? f.type=some i/\i.size=n')(hk:n'≠0)(hx:Af e x = .pointer (some ⟨r,off,none⟩))(ho':off+off0=off'):
  Yld P Y e (.fieldAddr t x i) ty (.pointer (some ⟨r,off',none⟩)):=Ajt hT hi ho hF hk hx ho'
theorem Gp{r off off0 off' i fs f n' j}(hT:P.underlying t=some (.struct fs))(hi:fs[i]?=some f)(hF:P.info? f.type=some j)(hs:j.size=n':=by exact rfl)(ho:f.offset=off0:=by exact rfl)(hk:n'≠0:=by decide)(hx:Af e x = .pointer (some ⟨r,off,none⟩):=by exact rfl)(ho':off+off0=off':=by exact rfl):Yld P Y e (.fieldAddr t x i) ty (.pointer (some ⟨r,off',none⟩)):=Cb hT hi ho ⟨_,hF,hs⟩ hk hx ho'
theorem Cq{r off off' len k' el k q}(i:Nat)(hT:P.underlying t=some (.array len el))(hE:∃i,P.info? el=some i/\i.size=k')(hx:Af e x = .pointer (some ⟨r,off,none⟩))(hy:Af e y = .int k q)(hq:q=(i:Int))(hi:i<len)(ho:off+i*k'=off'):
  Yld P Y e (.indexAddr t x y) ty (.pointer (some ⟨r,off',none⟩)):=Aju i hT hE hx hy hq hi ho
theorem Afy{r off off' len cap k' el k q}(i:Nat)(hT:P.underlying t=some (.slice el))(hE:∃i,P.info? el=some i/\i.size=k')(hx:Af e x = .slice (some ⟨r,off,none⟩) len cap)(hy:Af e y = .int k q)(hq:q=(i:Int))(hi:i<len)(ho:off+i*k'=off'):
  Yld P Y e (.indexAddr t x y) ty (.pointer (some ⟨r,off',none⟩)):=Ajv i hT hE hx hy hq hi ho
def Apk:List Value->Prop
 | []=>True
 | v::vs=>single v=true/\Apk vs
theorem Zh:∀{vs:List Value},Apk vs->∀w∈vs,single w=true
 | [],_,w,h=>by cases h
 | v::vs,hs,w,h=>by
  rcases lZ8.1 h with rfl|h
  ·exact hs.1
  ·exact Zh hs.2 w h
end
section
variable{P:Program}{b:FB}{n:Nat}{l₀ rest:List Oper}{Q:Env->List Deferred->Ro->Own->Prop}{e:Env}{ds:List Deferred}{Y:Ro}{Z:Own}
variable{d:Nat}{ty t:TypeId}{pos:String}{af:Array Edge}{g:Option (Nat×Bool)}{x:Operand}{v z:Value}
end
end
section
section
variable{C:Ctx}{e:Env}{ds:List Deferred}{Y:Ro}{Z:Own}{K:Value->List Deferred->Ro->Own->Prop}{rd:Option Nat}{dd:Option Tmp}
variable{ty:TypeId}{pos:String}{af:Array Edge}{g:Option (Nat×Bool)}{x y u:Operand}{v p:Value}{t t':TypeId}{P:Program}
def EqF(P:Program)(xs ys:Array Value):List Field->List Int->List Int->Prop
 | [],[],[]=>True
 | f::fs,p::ps,q::qs=>((f.name ≠ "_")/\∃k,P.underlying f.type=some (.int k)/\xs[f.offset]?=some (.int k p)/\ys[f.offset]?=some (.int k q))/\EqF P xs ys fs ps qs
 | _,_,_=>False
theorem Qr{cs off Q}(hT:∃d,P.underlying t=some d/\Qv d=false)(hc:cs[off]?=some v)(h:Q v Z):wpS P Y (part t cs off) Z Q:=by show wpS P Y ((isAgg t).bind _) Z Q;rw[Ad];refine Hi hT ?_;simp only[hc];exact h
theorem Afv{k a b d Q}(hT:P.underlying t=some (.int k))(h:Q (a==b) Z):wpS P Y (Op.equalIn (d+1) t (.int k a) (.int k b)) Z Q:=by show wpS P Y ((underlying t).bind _) Z Q;rw[Ad];refine Az hT ?_;simp only[if_true];exact h
theorem Uv{xs ys:Array Value}{d:Nat}{K:(Option Bool×Unit)->Own->Prop}:∀(fs:List Field) (ps qs:List Int),EqF P xs ys fs ps qs->K (if ps=qs then none else some false,()) Z ->
    wpS P Y (forIn fs ((none, ()) : Option Bool×Unit) fun (f : Field) (__s : Option Bool×Unit) =>
            if f.name ≠ "_" then do
              let __do_lift <-part f.type xs f.offset
              let __do_lift_1 <-part f.type ys f.offset
              let __do_lift <-Op.equalIn (d+1) f.type __do_lift __do_lift_1
              if (!__do_lift)=true then pure (ForInStep.done (some false,())) else pure (ForInStep.yield (none,()))
            else pure (ForInStep.yield (none,()))) Z K
  | [],[],[],_,h=>h
  | f::fs,p::ps,q::qs,⟨⟨hn,k,hT,hx,hy⟩,hr⟩,h=>by
    rw[Bdr];show wpS P Y (Sem.bind _ _) Z K;rw[Ad,if_pos hn];show wpS P Y ((part f.type xs f.offset).bind _) Z _;rw[Ad];refine Qr ⟨_,hT,rfl⟩ hx ?_;show wpS P Y ((part f.type ys f.offset).bind _) Z _;rw[Ad];refine Qr ⟨_,hT,rfl⟩ hy ?_;show wpS P Y ((Op.equalIn (d+1) f.type (.int k p) (.int k q)).bind _) Z _;rw[Ad];refine Afv hT ?_;cases hpq:(p==q) with
    | false =>
      have hne:¬(p::ps=q::qs):=fun h=>by injection h with h1;subst h1;simp at hpq
      rw[if_neg hne]at h;exact h
    | true =>
      have he:p=q:=eq_of_beq hpq;refine Uv fs ps qs hr ?_;have:(p::ps=q::qs)↔ps=qs:=by subst he;simp
      simp only[this]at h;exact h
  | [],[],_::_,h,_=>h.elim
  | [],_::_,_,h,_=>h.elim
  | _::_,[],_,h,_=>h.elim
  | _::_,_::_,[],h,_=>h.elim
theorem Ms{fs xs ys ps qs d Q}(hT:P.underlying t=some (.struct fs.toArray))(hs:P.stoodInHeld t=false)(hf:EqF P xs ys fs ps qs)(h:Q (decide (ps=qs)) Z):
  wpS P Y (Op.equalIn (d+2) t (.agg xs) (.agg ys)) Z Q:=by
 show wpS P Y ((underlying t).bind _) Z Q;rw[Ad];refine Az hT ?_;show wpS P Y (Sem.bind program _) Z Q;rw[Ad];show wpS P Y (if P.stoodInHeld t then _ else _) Z Q;rw[if_neg (by simp[hs])];simp only[Bdi];show wpS P Y (Sem.bind _ _) Z Q;rw[Ad];refine Uv fs ps qs hf ?_;by_cases he:ps=qs
 ·rw[if_pos he];rw[Qx he]at h;exact h
 ·rw[if_neg he];rw[Ji he]at h;exact h
theorem Aci{fs xs ys ps qs}(hT:P.underlying t=some (.struct fs.toArray))(hs:P.stoodInHeld t=false)(hg:P.eqGuardType P.depth t=false)(hx:Af e x = .agg xs)(hy:Af e y = .agg ys)(hf:EqF P xs ys fs ps qs):
  Yld P Y e (.binOp .neq t x y t') ty (.bool (!decide (ps=qs))) :=
 Mt (s:=(do eqGuard .neq t x y (Af e x) (Af e y);binOp .neq t (Af e x) (Af e y))) (fun _ _ _ _=>rfl) fun Y' Z _=>by
  rw[hx,hy];show wpS P Y' (Sem.bind (eqGuard .neq t x y (.agg xs) (.agg ys)) _) Z _;rw[Ad];show wpS P Y' (if (!P.eqGuardType P.depth t)=true then _ else _) Z _;rw[if_pos (by simp[hg])];show wpS P Y' ((Op.equal t (.agg xs) (.agg ys)).bind _) Z _;rw[Ad];exact Ms (d:=9998) hT hs hf ⟨rfl,rfl⟩
theorem Acg{fs xs ys ps qs}(hT:P.underlying t=some (.struct fs.toArray))(hs:P.stoodInHeld t=false)(hg:P.eqGuardType P.depth t=false)(hx:Af e x = .agg xs)(hy:Af e y = .agg ys)(hf:EqF P xs ys fs ps qs):
  Yld P Y e (.binOp .eql t x y t') ty (.bool (decide (ps=qs))) :=
 Mt (s:=(do eqGuard .eql t x y (Af e x) (Af e y);binOp .eql t (Af e x) (Af e y))) (fun _ _ _ _=>rfl) fun Y' Z _=>by
  rw[hx,hy];show wpS P Y' (Sem.bind (eqGuard .eql t x y (.agg xs) (.agg ys)) _) Z _;rw[Ad];show wpS P Y' (if (!P.eqGuardType P.depth t)=true then _ else _) Z _;rw[if_pos (by simp[hg])];show wpS P Y' ((Op.equal t (.agg xs) (.agg ys)).bind _) Z _;rw[Ad];exact Ms (d:=9998) hT hs hf ⟨rfl,rfl⟩
def Ahx:Value->Nat
 | .slice (some a) _ _=>a.block
 | _=>0
theorem Nw{α}[Dat α]{xs:List α}{gr el el' off' k q}(i:Nat)(hT:P.underlying t=some (.slice el'))(hE:∃i,P.info? el'=some i/\i.size=Dat.k α)(hx:Af e x=v)(hv:Grow Y el v xs gr)(hy:Af e y = .int k q)(hq:q=(i:Int))(hi:i<xs.length)(ho:i*Dat.k α=off'):
  Yld P Y e (.indexAddr t x y) ty (.pointer (some ⟨Ahx v,off',none⟩)):=by
 rcases hv.2.2 with⟨_,b⟩|⟨r,cap,cs,rs,gb,a,_⟩
 ·rw[b]at hi;simp at hi
 ·subst a;exact Afy i hT hE hx hy hq hi (by omega)
theorem Re{α:Type}[Dat α]{xs:List α}{a:α}{gr:Own}{el:TypeId}{w:Value}{off i:Nat}(hE:∃i,C.P.info? t=some i/\i.size=Dat.k α)(hx:Af e x = .pointer (some ⟨Ahx v,off,none⟩))(ho:off=i*Dat.k α)(hy:Af e y=w)(hw:Val Y w a)(hv:Grow Y el v xs gr)(hi:i<xs.length)
  (h:∀gr',Grow Y el v (xs.set i a) gr'->K undef ds Y (gr'++Z)):wpS C.P Y (execOp (Af e) ⟨dd,.store t x y,ty,pos,af,g⟩) (gr++Z) (NextH C K rd ds Y):=by
 obtain⟨wc,n,E,H⟩:=hw.cells;rcases hv.2.2 with⟨_,E⟩|⟨r,cap,cs,rs,gb,F,G,hr,hl,hc⟩
 ·rw[E]at hi;simp at hi
 ·subst F G;have hwl:=Dat.len n;have hcl:=hr.len;have hb:i*Dat.k α+Dat.k α<=xs.length*Dat.k α:=by rw[<-Nat.succ_mul];exact Awo _ hi
  obtain⟨ca,cb,cc,b,j,d,m⟩:∃ca cb cc,cs=ca++(cb++cc)/\ca.length=i*Dat.k α/\cb.length=Dat.k α/\Rows Y (ca++(wc++cc)) (xs.set i a):=by
   clear hv h hx hl hc hb hcl ho;induction xs generalizing cs i with
   | nil=>simp at hi
   | cons z zs ih =>
    obtain⟨f,q,u,B,D⟩:=hr;have hz:=Dat.len B;cases i with
    | zero=>exact⟨[],f,q,by simp[u],by simp,hz,wc,q,rfl,n,D⟩
    | succ i =>
     obtain⟨ca,cb,cc,b,j,d,m⟩:=ih (i:=i) (by simpa using hi) _ D;refine⟨f++ca,cb,cc,by rw[u,b];simp,by rw[lZ4,hz,j,Yo,Amw,Aqq],d,f,ca++(wc++cc),by simp,B,m⟩
  refine Li (i:=0) (off:=off) (vs:=wc) (c:=cs++rs) (c':=(ca++(wc++cc))++rs) hE hx hy H hwl (Dat.sgl n) rfl (by rw[lZ4,hcl,hwl,ho];omega) ?_ ?_
  ·rw[Qe _ _ _ (by rw[lZ4,hcl,hwl,ho];omega),b,ho,<-j,hwl,<-d];rw[lZ9,Ams,<-lZ9 ca,<-Aoz];simp[lZ9]
  ·refine h ((r,.obj (.cells ((ca++(wc++cc))++rs).toArray el (0,0)))::gb) ⟨fun p hp=>?_,by rw[Xr];exact hv.2.1,.inr ⟨r,cap,ca++(wc++cc),rs,gb,by rw[Xr],rfl,m,?_,by rw[Xr];exact hc⟩⟩
   ·rcases lZ8.1 hp with rfl|hp
    ·exact⟨_,rfl⟩
    ·exact hv.1 p (lZ0 _ hp)
   ·rw[<-hl,b];simp[hwl,d]
end
section
variable{C:Ctx}{b:FB}{l₀:List Oper}{Q:Env->List Deferred->Ro->Own->Prop}{ds:List Deferred}{Y9 Y8:Ro}{pz:List Nat}
end
end
section
structure Ptr(α:Type) where
 v:α
instance{α:Type}[Dat α]:Dat (Ptr α) where
 k:=1
 agg:=false
 rep Y cs x:=∃p,cs=[p]/\At Y p x.v
 mono h:=fun⟨p,h1,h2⟩=>⟨p,h1,h2.mono h⟩
 len:=fun⟨p,h1,_⟩=>by rw[h1];rfl
 sgl:=fun⟨p,h1,b,off,_,_,_,_,_,h2,_⟩ c hc=>by rw[h1,Nh]at hc;rw[hc,h2];rfl
 one _:=rfl
theorem Ir{α}[Dat α]{Y p}{x:α}:Val Y p (Ptr.mk x)↔At Y p x :=
 ⟨fun⟨cs,⟨q,a,b⟩,c⟩=>by rw[c,a];exact b,fun h=>⟨[p],⟨p,rfl,h⟩,rfl⟩⟩
structure RawV where
 v:Value
instance:Dat RawV where
 k:=1
 agg:=false
 rep _ cs x:=cs=[x.v]/\single x.v=true
 mono _ h:=h
 len h:=by rw[h.1];rfl
 sgl h:=by rw[h.1];intro c hc;rw[Nh]at hc;rw[hc];exact h.2
 one _:=rfl
theorem Sp{Y:Ro}{v:Value}(h:single v=true):Val Y v (RawV.mk v):=⟨[v],⟨rfl,h⟩,rfl⟩
theorem Lb{P:Program}{Y:Ro}{e:Env}{ty t:TypeId}{x:Operand}{p v:Value}(hT:GoTy P t RawV)(hx:Af e x=p)(hp:At Y p (RawV.mk v)):Yld P Y e (.load t x) ty v:=by obtain⟨w,c,b⟩:=Ax (ty:=ty) hT hx hp;obtain⟨cs,d,f⟩:=c;rw[f,d.1]at b;exact b
structure UW where
 n:Nat
deriving DecidableEq
instance:Dat UW where
 k:=1
 agg:=false
 rep _ cs x:=cs=[.int .u64 (x.n:Int)]
 mono _ h:=h
 len h:=by rw[h];rfl
 sgl h:=by rw[h];simp[single]
 one _:=rfl
theorem Rq{Y:Ro}{v:Value}{x:UW}:Val Y v x↔v = .int .u64 (x.n:Int) :=
 ⟨fun⟨cs,a,b⟩=>by rw[b,show cs=[.int .u64 (x.n:Int)] from a];rfl,fun h=>⟨[v],by rw[h];rfl,rfl⟩⟩
theorem Zt:GoTy Tryz.prog 108 UW:=⟨⟨_,Tryz.underlying108,rfl⟩,⟨_,Ab Tryz.typeInfo108,rfl⟩⟩
theorem Aga{P:Program}{Y:Ro}{e:Env}{ty t:TypeId}{x:Operand}{p:Value}{a:UW}(hT:GoTy P t UW)(hx:Af e x=p)(hp:At Y p a):Yld P Y e (.load t x) ty (.int .u64 (a.n:Int)):=by obtain⟨v,c,b⟩:=Ax (ty:=ty) hT hx hp;rw[Rq.1 c]at b;exact b
section
variable{C:Ctx}{e:Env}{ds:List Deferred}{Y:Ro}{Z:Own}{K:Value->List Deferred->Ro->Own->Prop}{rd:Option Nat}{dd:Option Tmp}
variable{ty:TypeId}{pos:String}{af:Array Edge}{g:Option (Nat×Bool)}{x y u:Operand}{v p:Value}{t t':TypeId}{P:Program}
theorem Ck{a}(hx:Af e x = .pointer (some a)):Yld P Y e (.nilCheck x) ty (.pointer (some a)):=fun Y' Z d pos af g _=>by
 unfold execOp;simp only[hx];exact⟨rfl,rfl⟩
theorem At.ptr{α}[Dat α]{a:α}(h:At Y p a):∃ad,p = .pointer (some ad):=let ⟨b,off,_,_,_,_,_,h1,_⟩:=h;⟨_,h1⟩
theorem Hj{α}[Dat α]{a:α}(hx:Af e x=p)(h:At Y p a):Yld P Y e (.nilCheck x) ty p:=by obtain⟨ad,rfl⟩:=h.ptr;exact Ck hx
theorem Il{fn caps vs}(hv:EvL e caps vs):Yld P Y e (.makeFunc fn #[] caps.toArray) ty (.func fn #[] vs.toArray):=fun Y' Z d pos af g _=>by
 show wpS P Y' ((Instr.makeFunc fn ((#[]:Array Operand).map (Af e)) (caps.toArray.map (Af e))).bind fun v=>Sem.pure (Next.value v)) Z _;have a:(#[]:Array Operand).map (Af e) = #[]:=by simp
 rw[hv.map,a];exact⟨rfl,rfl⟩
theorem Sq{f fn args tys vs caps R}(hx:Af e x = .func (.func f) #[] caps.toArray)(hc:CallsH C f (vs++caps).toArray Y Z R)(hf:C.P.funcs[f]?=some fn)(hn:(fn.name == "runtime.NumGoroutine")=false)(hb:fn.body.isNone=false)(hv:EvL e args vs)(h:∀v Y' Z',R v Y' Z'->K v ds Y' Z'):wpS C.P Y (execOp (Af e) ⟨dd,.call ⟨.value x,args.toArray,tys⟩,ty,pos,af,g⟩) Z (NextH C K rd ds Y):=by
 have hv':=hv.map;show wpS C.P Y ((Deferred.ofValue (Af e x) (args.toArray.map (Af e))).bind _) Z _;rw[hx,hv'];show wpS C.P Y (callFunc f ((#[]++vs.toArray)++caps.toArray)) Z _;have a:((#[]++vs.toArray)++caps.toArray:Array Value)=(vs++caps).toArray:=by simp
 rw[a];exact Mr hf hn hb (hc.mono h)
theorem Ur{f:FuncId}{fn:Func}{args:List Operand}{tys:Array TypeId}{vs caps:List Value}(hx:Af e x = .func (.func f) #[] caps.toArray)(hc:CallsH C f (vs++caps).toArray Y Z (fun w Y' Z'=>Y'=Y/\Z'=Z/\w=v))(hf:C.P.funcs[f]?=some fn)(hn:(fn.name == "runtime.NumGoroutine")=false)(hb:fn.body.isNone=false)
  (hv:EvL e args vs) (h:K v ds Y Z):wpS C.P Y (execOp (Af e) ⟨dd,.call ⟨.value x,args.toArray,tys⟩,ty,pos,af,g⟩) Z (NextH C K rd ds Y) :=
 Sq hx hc hf hn hb hv (by rintro w Y' Z' ⟨rfl,rfl,rfl⟩;exact h)
end
def Bjp{α:Type}[Dat α](Y9:Ro)(f:Value)(D:α->Prop)(p:α->Bool):Prop :=
 ∃(k:FuncId) (fn:Func) (caps:List Value),f = .func (.func k) #[] caps.toArray/\Tryz.prog.funcs[k]?=some fn/\(fn.name == "runtime.NumGoroutine")=false/\fn.body.isNone=false /\
  ∀(mn:Bool) (X:Frame->List Frame->Ro->Own->Cy->Prop) (Y:Ro) (Z:Own) (v:Value) (x:α),Ro.le Y9 Y->D x->Val Y v x->CallsH (CX mn X) k (v::caps).toArray Y Z (fun w Y' Z'=>Y'=Y/\Z'=Z/\w = .bool (p x))
theorem Adv{e:Env}{ds:List Deferred}{Y Y9:Ro}{Z:Own}{K:Value->List Deferred->Ro->Own->Prop}{rd:Option Nat}{dd:Option Tmp}{ty:TypeId}{pos:String}{af:Array Edge}{g:Option (Nat×Bool)}{x y:Operand}{v:Value}{α:Type}[Dat α]{mn:Bool}{X:Frame->List Frame->Ro->Own->Cy->Prop}{f:Value}{D:α->Prop}{pr:α->Bool}{a:α}{tys:Array TypeId}
  (hf:Bjp Y9 f D pr) (hle:Ro.le Y9 Y) (hD:D a) (hx:Af e x=f) (hy:Af e y=v) (hv:Val Y v a) (h:K (.bool (pr a)) ds Y Z) :
  wpS (CX mn X).P Y (execOp (Af e) ⟨dd,.call ⟨.value x,#[y],tys⟩,ty,pos,af,g⟩) Z (NextH (CX mn X) K rd ds Y):=by obtain⟨k,fn,caps,rfl,b,c,d,i⟩:=hf;exact Ur (args:=[y]) (vs:=[v]) (caps:=caps) (C:=CX mn X) hx (i mn X Y Z v a hle hD hv) b c d ⟨hy,trivial⟩ h
def Vl(Q:Hu):Hu:=fun ex e ds Y Z=>∃Y' Z',Ghost Y Z Y' Z'/\Q ex e ds Y' Z'
theorem Aab{C:Ctx}{b:FB}{n:Nat}{c:Code}{Q:Hu}{e:Env}{ds:List Deferred}{Y:Ro}{Z:Own}{V:Ql}(h:WpP C V b n c (Vl Q) e ds Y Z):WpP C V b n c Q e ds Y Z:=fun tm k cs ht=>by
 refine(h tm k cs ht).bind ?_;rintro _ _ Y' Z' (⟨a,ex,tm',e',ds',i,d,⟨j,m,hg,hq⟩,f,g⟩|hp)
 ·exact .ghost hg (.stop (.inl ⟨a,ex,tm',e',ds',i,d,hq,f,g⟩))
 ·exact .stop (.inr hp)
theorem Yn{Q:Hu}{ex:Ex}{e:Env}{ds:List Deferred}{Y Y':Ro}{Z Z':Own}(hg:Ghost Y Z Y' Z')(h:Vl Q ex e ds Y' Z'):Vl Q ex e ds Y Z :=
 let ⟨Y1,Z1,h1,h2⟩:=h;⟨Y1,Z1,hg.trans h1,h2⟩
theorem Adc{Q:Hu}{ex:Ex}{e:Env}{ds:List Deferred}{Y:Ro}{Z:Own}(h:Q ex e ds Y Z):Vl Q ex e ds Y Z:=⟨Y,Z,.refl,h⟩
theorem Yp{I:List Value->Ro->Own->Prop}{pre pre' Y Z}(h:pre'=pre)(hi:I pre Y Z):I pre' Y Z:=by rw[h];exact hi
theorem Fe(A B C:Own):(A++(B++C)).Perm (B++(A++C)):=Bna A B C
theorem Xg{α:Type}{f:α->Value}(hf:∀a b,f a=f b->a=b):∀{l m:List α},l.map f=m.map f->l=m
 | [],[],_=>rfl
 | [],_::_,h=>by cases h
 | _::_,[],h=>by cases h
 | a::l,b::m,h=>by
  simp only[Ic,List.cons.injEq]at h;rw[hf a b h.1,Xg hf h.2]
theorem Nf{α:Type}{f:α->Value}(hf:∀a b,f a=f b->a=b){l m:List α}(h:l.map f=m.map f):m=l:=(Xg hf h).symm
theorem Ly{α:Type}{f:α->Value}(hf:∀a b,f a=f b->a=b){l l1:List α}{x:Value}{post:List Value}(h:l.map f=l1.map f++x::post):∃a l2,l=l1++a::l2/\x=f a:=by obtain⟨k,m,c,d,e⟩:=List.map_eq_append_iff.1 h;obtain⟨a,l2,g,i,j⟩:=List.map_eq_cons_iff.1 e;have:=Xg hf d;subst this;exact⟨a,l2,by rw[c,g],i.symm⟩
section
variable{C:Ctx}{e:Env}{ds:List Deferred}{Y:Ro}{Z:Own}{K:Value->List Deferred->Ro->Own->Prop}{rd:Option Nat}{dd:Option Tmp}
variable{ty:TypeId}{pos:String}{af:Array Edge}{g:Option (Nat×Bool)}{x y u:Operand}{v p:Value}{t t':TypeId}{P:Program}
theorem Xt{old new Q}(hw:old=new)(h:Q new Z):wpS P Y (Instr.keyThatStays old new) Z Q:=by
 subst hw;unfold Instr.keyThatStays;split
 ·exact h
 ·show wpS P Y (Sem.bind (choose _) _) Z Q;rw[Ad];show (if _ then _ else _);have key:∀n:Nat,(if n=0 then old else old)=old:=fun n=>by split<;>rfl
  split
  ·simp only[key];exact h
  ·intro t;simp only[key];exact h
end
end
section
open Go Go.WideShapes
def roW(W:World):Ro:=fun b=>match W.heap[b]? with
 | some o=>if o.isChan then none else some o
 | none=>none
theorem Anl{W}(b:Nat)(o:Obj)(h:roW W b=some o):W.heap[b]?=some o/\o.isChan=false:=by
 unfold roW at h;cases hb:W.heap[b]? with
 | none=>rw[hb]at h;cases h
 | some o' =>
  rw[hb]at h;simp only at h;cases hc:o'.isChan with
  | true=>rw[hc]at h;cases h
  | false=>rw[hc]at h;simp at h;subst h;exact⟨rfl,hc⟩
theorem Vz{W b t c fz}(h:W.heap[b]?=some (.cells c t fz)):roW W b=some (.cells c t fz):=by unfold roW;rw[h];rfl
def Api(α:Type)[Dat α](t:TypeId):Prop :=
 Tryz.prog.cellsOf t=Dat.k α/\∀(H:Type) (enc:TypeId×Value->H) (W:World) (fuel:Nat) (cs:List Value) (x:DataW H×List MemPlace),
  DataW.trod enc Tryz.prog W 0 (fun _=>true) true fuel t cs=some x->(∀n∈x.1.weights Tryz.prog t,n<=reachBytes)->∃a:α,Dat.rep (roW W) cs a
theorem Aya{n}(h:n<=reachBytes):n<2^60:=by unfold reachBytes at h;omega
theorem Bsf{t}(ht:Tryz.prog.underlying t=some (.int .i64))(hc:Tryz.prog.cellsOf t=1):Api Int t :=
 ⟨hc,fun H enc W c cs x h _=>by
  obtain⟨n,a,_,b⟩:=DataW.trod_int ht h;refine⟨n,a,?_⟩;simp[Lit.wf,IntKind.min,IntKind.max,IntKind.signed,IntKind.bits]at b;exact⟨by omega,by omega⟩⟩
theorem Atd{t}(ht:Tryz.prog.underlying t=some .string)(hc:Tryz.prog.cellsOf t=1):Api ByteArray t :=
 ⟨hc,fun H enc W c cs x h hw=>by
  obtain⟨s,a,b,_⟩:=DataW.trod_string ht h;refine⟨s,a,Aya ?_⟩;have:=hw s.data.toList.length (by rw[b];simp[DataW.weights]);simpa using this⟩
theorem Bea{α:Type}{P:Nat->α->Prop}:∀n,(∀i,i<n->∃a,P i a)->∃xs:List α,xs.length=n/\∀i x,xs[i]?=some x->P i x
 | 0,_=>⟨[],rfl,fun i x h=>by cases h⟩
 | n+1,h=>by
  obtain⟨xs,h1,h2⟩:=Bea n fun i hi=>h i (by omega);obtain⟨a,ha⟩:=h n (by omega);refine⟨xs++[a],by simp[h1],fun i x hx=>?_⟩;rcases Tk i n with hlt|hge
  ·rw[Aiv (by omega)]at hx;exact h2 i x hx
  ·have hi:i=n:=by
    have:=(lZ1.1 hx).1;simp only[lZ4,Xo]at this;omega
   subst hi;rw[Blw (by omega),h1,Aww]at hx;cases hx;exact ha
theorem Bvj{a:Addr}:a.add 0=a:=by simp[Addr.add]
theorem Avb{b off i}:(⟨b,off,none⟩:Addr).add i=⟨b,off+i,none⟩:=by
 unfold Addr.add;split
 ·rename_i h;subst h;rfl
 ·rfl
theorem Ari{W:World}{a k cs}(hk:1<=k)(h:W.cells? 0 a k=some cs):∃b off c t fz rest,a=⟨b,off,none⟩/\W.heap[b]?=some (.cells c t fz)/\c.toList.drop off=cs++rest/\cs.length=k:=by
 unfold World.cells? at h;rw[if_pos (Hn _)]at h;have hl:=mapM_some_length h;rw[Bdn]at hl;have hg:∀j,j<k->W.cell? (a.add j)=cs[j]?:=fun j hj=>mapM_some_get h j j (by rw[Awp hj]);obtain⟨b,off,f⟩:=a;have d:=hg 0 hk;rw[Bvj]at d;obtain⟨v,hv⟩:∃v,cs[0]?=some v:=⟨_,Ps (by omega)⟩;rw[hv]at d;unfold World.cell? at d;simp only at d;cases hb:W.heap[b]? with
 | none=>rw[hb]at d;cases d
 | some o =>
  cases o with
  | cells c t fz =>
   rw[hb]at d;simp only at d;cases f with
   | some s=>simp at d
   | none =>
    refine⟨b,off,c,t,fz,(c.toList.drop off).drop k,rfl,hb,?_,hl⟩;have e:(c.toList.drop off).take k=cs:=by
     apply Axb;intro j;rw[Bmq];by_cases hj:j<k
     ·rw[if_pos hj,<-hg j hj,Att,Avb];unfold World.cell?;simp only[hb];simp
     ·rw[if_neg hj,Sr (by omega)]
    rw[<-e,Zd]
  | _=>rw[hb]at d;cases d
theorem Zx{H:Type}{P:Program}{e:TypeId}:∀{ds:List (DataW H)} {d:DataW H} {n:Nat},d∈ds->n∈d.weights P e->n∈DataW.weightsAll P e ds
 | [],_,_,h,_=>by cases h
 | d'::ds,d,n,h,hn=>by
  rw[DataW.weightsAll,Gv];rcases lZ8.1 h with rfl|h
  ·exact .inl hn
  ·exact .inr (Zx h hn)
theorem Adq{α}[Dat α]{t e}(ht:Tryz.prog.underlying t=some (.slice e))(hc:Tryz.prog.cellsOf t=1)(hb:1<=Tryz.prog.bytesOf e)(hk:1<=Dat.k α)(he:Api α e):Api (List α) t :=
 ⟨hc,fun H enc W K cs x h hw=>by
  rcases DataW.trod_slice ht h with⟨u,_⟩|⟨a,len,cap,elems,rest,n,_,w,B,_,C,_,D,E,_,_⟩
  ·exact⟨[],_,u,none,0,0,rfl,rfl,by omega,Ib _,fun i x hx=>by cases hx⟩
  ·rw[B]at hw;simp only[DataW.weights,ht]at hw;have G:len<2^60:=by
    have:=hw _ mC;simp only[Abj]at this;refine Aya (Tj ?_ this);rw[D];exact Tj (Tj (Bmy _ _) (Amu (Aqt _).symm)) (Nat.mul_le_mul_left _ hb)
   obtain⟨xs,I,q⟩:=Bea (P:=fun i (y:α)=>∃cs,W.cells? 0 (a.add (i*Tryz.prog.cellsOf e)) (Tryz.prog.cellsOf e)=some cs/\Dat.rep (roW W) cs y) len fun i hi=>by
    have d:=E i hi;obtain⟨y,hy⟩:∃y,elems[i]?=some y:=⟨_,Ps (by omega)⟩;rw[hy,Option.bind_eq_some_iff]at d;obtain⟨ci,f,g⟩:=d;obtain⟨z,hz⟩:=he.2 H enc W n ci y g fun m hm=>hw m (lZ0 _ (Iz _ (Zx (Rk (lZ6 hy)) hm)));exact⟨z,ci,f,hz⟩
   refine⟨xs,_,w,some a,len,cap,rfl,I,G,C,fun i y hy=>?_⟩;obtain⟨b',j,rfl⟩:∃b' j,a=⟨b',j,none⟩:=by
    have hi:=(lZ1.1 hy).1;obtain⟨p,J⟩:∃p,xs[0]?=some p:=⟨_,Ps (by omega)⟩;obtain⟨ci,f,_⟩:=q 0 p J;rw[he.1,Awx,Bvj]at f;obtain⟨b,off,_,_,_,_,d,_⟩:=Ari hk f;exact⟨b,off,d⟩
   obtain⟨ci,f,g⟩:=q i y hy;rw[he.1,Avb]at f;obtain⟨b,off,c,t',fz,rs,d,F,v,_⟩:=Ari hk f;simp only[Addr.mk.injEq,and_true]at d;obtain⟨rfl,rfl⟩:=d;exact⟨b',j,rfl,b',_,c,t',fz,ci,rs,rfl,Vz F,g,v⟩⟩
theorem Azt(cs:List Value)(a k:Nat):cs.drop a=(cs.drop a).take k++cs.drop (a+k):=by rw[<-Aoz,Zd]
theorem Vy{H enc W n}{cs:List Value}{xs:List (DataW H×List MemPlace)}{fs t}(ht:Tryz.prog.underlying t=some (.struct fs))(hl:xs.length=fs.size)(h:∀(i:Nat) (f:Field),fs[i]?=some f->DataW.trod enc Tryz.prog W 0 (fun _=>true) true n f.type ((cs.drop f.offset).take (Tryz.prog.cellsOf f.type))=xs[i]?)(hw:∀m∈(DataW.agg (xs.map (·.1)):DataW H).weights Tryz.prog t,m<=reachBytes){α}[Dat α]{i ft off:Nat}{f}(hf:fs[i]?=some f)(h1:f.type=ft)(h2:f.offset=off)(hd:Api α ft):∃a:α,Dat.rep (roW W) ((cs.drop off).take (Dat.k α)) a:=by subst h1 h2;have hi:=(Agh.1 hf).1;obtain⟨y,hy⟩:∃y,xs[i]?=some y:=⟨_,Ps (by omega)⟩;have b:=h i f hf;rw[hy,hd.1]at b;refine hd.2 H enc W n _ y b fun m hm=>hw m ?_;simp only[DataW.weights,ht];exact DataW.weights_mem_each (j:=i) (t:=f.type) (d:=y.1) (by simp[Bhg,hf]) (by simp[hy]) m hm
end
section
open Go Go.RowKit Go.Conc
def Agd(C:Ctx)(f:FuncId)(r:Nat)(args:List Value)(Y:Ro)(Z:Own)(R:Value->Ro->Own->Prop):Prop :=
 ∃fn c,C.P.funcs[f]?=some fn/\fn.body=some c/\fn.results = #[.tmp r]/\args.length<=fn.ntmps /\
  ∀Q:Hu,(∀e Y' Z',R (e r) Y' Z'->Q .ret e [] Y' Z')->(∀e Y' Z',R (e r) Y' Z'->Q .normal e [] Y' Z')->WpC C ⟨f,.normal,none⟩ fn.ntmps c Q (Pn args) [] Y Z
theorem Bre{C f fn c n r args Y Z R}(hf:C.P.funcs[f]?=some fn)(hc:fn.body=some c)(hn:fn.ntmps=n)(ha:Nat.ble args.length n=true)(hr:fn.results = #[.tmp r])(h:∀Q:Hu,(∀e Y' Z',R (e r) Y' Z'->Q .ret e [] Y' Z')->(∀e Y' Z',R (e r) Y' Z'->Q .normal e [] Y' Z')->WpC C ⟨f,.normal,none⟩ n c Q (Pn args) [] Y Z):Agd C f r args Y Z R :=
 ⟨fn,c,hf,hc,hr,hn ▸ lZ7 ha,hn ▸ h⟩
end
section
open Go Go.WideShapes Go.ChangeShapes Go.RowKit Go.Conc
section
variable{H:Type}{enc:TypeId×Value->H}{W:World}{r:Go.Reach}{base t:Nat}{v:Value}{d:DataW H}{p:List MemPlace}
theorem Azb{α}[Dat α]{fs}(hd:Api α t)(ha:Dat.agg α=true)(ht:Tryz.prog.underlying t=some (.struct fs))(hv:Value.okWide Tryz.prog W r base t v)(h:DataW.Trod enc Tryz.prog W 0 (fun _=>true) true t v d p)(hw:∀n∈d.weights Tryz.prog t,n<=reachBytes):∃a:α,Val (roW W) v a:=by obtain⟨cs,rfl,_⟩:=okWide_struct ht hv;obtain⟨b,hf⟩:=h;obtain⟨a,c⟩:=hd.2 H enc W b cs.toList (d,p) hf hw;refine⟨a,_,c,?_⟩;rw[ha];show _=Value.agg cs.toList.toArray;simp
theorem Bfw{α:Type}[Dat α]{el:TypeId}(hd:Api (List α) t)(ht:Tryz.prog.underlying t=some (.slice el))(hv:Value.okWide Tryz.prog W r base t v)(h:DataW.Trod enc Tryz.prog W 0 (fun _=>true) true t v d p)(hw:∀n∈d.weights Tryz.prog t,n<=reachBytes):∃a:List α,Val (roW W) v a:=by obtain⟨a,len,cap,rfl⟩:=okWide_slice ht hv;obtain⟨b,hf⟩:=h;obtain⟨xs,c⟩:=hd.2 H enc W b [.slice a len cap] (d,p) hf hw;exact⟨xs,_,c,rfl⟩
end
theorem Aoh{H:Type}{P:Program}{ts:List TypeId}{ds:List (DataW H)}(h:(DataW.weightsEach P ts ds).all (·<=reachBytes)=true){j:Nat}{t:TypeId}{d:DataW H}(ht:ts[j]?=some t)(hd:ds[j]?=some d):∀n∈d.weights P t,n<=reachBytes:=fun n hn=>by
 have:=Te.1 h _ (DataW.weights_mem_each ht hd n hn);simpa using this
theorem Zw{P}{W:World}{n g cs}(hg:P.globalNamed n=some g)(h:W.var? P n=some cs):∃t fz,W.heap[g]?=some (.cells cs t fz):=by
 simp only[World.var?,hg,Bmz]at h;split at h
 ·rename_i cs' t fz hh;cases h;exact⟨t,fz,hh⟩
 ·cases h
end
section
open Go Go.WideShapes Go.ChangeShapes Go.RowKit Go.Conc
theorem Art:ownKnob Tryz.prog.godebug=none:=by kernel_rfl
theorem Aid:laidOutB Tryz.prog=true:=by kernel_rfl
theorem Sb{H:Type}{enc:TypeId×Value->H}{P:Program}{w:World}{base:Nat}{spare:Nat->Bool}{held:Bool}:∀{ts:List TypeId} {vs:List Value} {ds:List (DataW H)} {ps:List MemPlace},DataW.TrodAll enc P w base spare held ts vs ds ps->vs.length=ts.length/\ds.length=ts.length
 | [],[],[],_,_=>⟨rfl,rfl⟩
 | t::ts,v::vs,d::ds,_,⟨p,q,_,h,_⟩=>by have:=Sb h;simp[this]
 | [],[],_::_,_,h=>h.elim
 | [],_::_,_,_,h=>h.elim
 | _::_,[],_,_,h=>h.elim
 | _::_,_::_,[],_,h=>h.elim
theorem Oo{H:Type}{enc:TypeId×Value->H}{W W':World}(hb:Below W.heap.size W W'):∀{ts:List TypeId} {vs:List Value} {ds:List (DataW H)} {ps:List MemPlace},(∀t∈ts,Tryz.prog.readableRec t=true/\t<Tryz.prog.types.size)->(∀x∈ps,x.block<W.heap.size) ->
  DataW.TrodAll enc Tryz.prog W 0 (fun _=>true) true ts vs ds ps->DataW.TrodAll enc Tryz.prog W' 0 (fun b=>decide (b<W.heap.size)) true ts vs ds ps
 | [],[],[],_,_,_,h=>h
 | t::ts,v::vs,d::ds,_,ht,hl,⟨p,q,h1,h2,he⟩=>⟨p,q,Below.trod Aid (ht t mC).1 (ht t mC).2 h1 hb fun x hx=>hl x (he ▸ Iz _ hx),Oo hb (fun t h=>ht t (lZ0 _ h)) (fun x hx=>hl x (he ▸ lZ5 _ hx)) h2,he⟩
 | [],[],_::_,_,_,_,h=>h.elim
 | [],_::_,_,_,_,_,h=>h.elim
 | _::_,[],_,_,_,_,h=>h.elim
 | _::_,_::_,[],_,_,_,h=>h.elim
theorem Biy(Lk:Looks){p s c}(kinds:List LaidKind)(tests:Bool)(har:Bool×String)(lk:Bool)(hc:c.holds p s)(hw:c.wfByText s=true)(htie:c.laidByTextAt Lk p kinds tests)(hst:c.start = .entering)(hnb:c.noBlocks=false/\c.again=false)(hm:p.checked.prog.mainIs=some (har.1,har.2.toList))(hn:(!har.1&&har.2.isEmpty && !lk)=false)(hl:∀f fn,p.checked.prog.funcNamed c.func=some f->p.checked.prog.funcs[f]?=some fn->lk=p.checked.prog.looks []/\∀(j:Nat) t,fn.params[j]?=some t->p.checked.prog.wantsStandIn t=false)(hg:true=c.goesBy p.checked.prog):
  Claim7.holds p (.plain s) {stood:={row:=c,standIns:=[],harness:=har,looks:=lk},kinds:=[],alts:=[],goes:=true,laidByText:=true,laidKinds:=kinds,laidTests:=tests,laidLooks:=Lk}:=by
 have a:∀r:OpenClaim,Claim7.isSixth {stood:={row:=r,standIns:=[],harness:=har,looks:=lk},kinds:=[]}=false:=fun r=>by simpa[Claim7.isSixth]using hn
 exact⟨Claim7.tied_new_at Lk kinds tests (Claim7.new_of_sixth hc har lk hst hnb hm (a c) hl) hw,(fun D hD=>by cases hD),htie,(fun h=>by cases h),hg⟩
end
section
def inR(n low high:Int):Bool:=decide (low<=n)&&decide (n<=high)
theorem Fz{n low high}:inR n low high=true↔low<=n/\n<=high:=by simp[inR]
theorem Aic{n low high}:inR n low high=false↔n<low∨high<n:=by
 cases h:inR n low high
 ·have:¬(low<=n/\n<=high):=fun h'=>by rw[Fz.2 h']at h;cases h
  simp only[true_iff];omega
 ·have:=Fz.1 h;simp only[Bool.true_eq_false,false_iff];omega
theorem Eg{p:Nat->Prop}{i}(h:∀j,j<i->p j)(h':p i):∀j,j<i+1->p j:=fun j hj=>by
 rcases Tk j i with hlt|hge
 ·exact h j hlt
 ·obtain rfl:j=i:=by omega
  exact h'
def Ov(c:Int):Bool:=(decide (c<97)||decide (c>122))&&(decide (c<48)||decide (c>57))&&(c != 45)
def Alm(s:ByteArray)(j:Nat):Bool:=match s[j]? with|some c=>!Ov ((c.toNat:Nat):Int)|none=>true
def Qb(s:ByteArray):Bool:=match s[0]? with|some c=>!decide (((c.toNat:Nat):Int)<97) && !decide (((c.toNat:Nat):Int)>122)|none=>true
def Hg(s:ByteArray):Bool:=inR s.size 1 14&&Qb s&&(List.range s.size).all (Alm s)
theorem Ber{s}:(List.range s.size).all (Alm s)=true↔∀j,j<s.size->Alm s j=true:=by simp
theorem Btq{s j}(h:j<s.size)(h0:Alm s j=false):(List.range s.size).all (Alm s)=false:=by
 cases hh:(List.range s.size).all (Alm s) with
 | false=>rfl
 | true=>rw[Ber.1 hh j h]at h0;cases h0
def Cl(n:Nat)(p:Nat->Bool):Option Nat:=(List.range n).find? p
theorem Fh{n i p}(h:∀j,j<i->p j=false)(hi:i<n)(hp:p i=true):Cl n p=some i:=by unfold Cl;rw[List.find?_range_eq_some];exact⟨hp,by simpa using hi,fun j hj=>by simp[h j hj]⟩
theorem Ep{n p}(h:∀j,j<n->p j=false):Cl n p=none:=by unfold Cl;rw[List.find?_eq_none];intro j hj;simp[h j (by simpa using hj)]
theorem Ft{n p}:(∃i,i<n/\p i=true/\(∀j,j<i->p j=false)/\Cl n p=some i)∨((∀j,j<n->p j=false)/\Cl n p=none):=by
 cases h:Cl n p with
 | some i =>
  unfold Cl at h;rw[List.find?_range_eq_some]at h;exact .inl ⟨i,by simpa using h.2.1,h.1,fun j hj=>by simpa using h.2.2 j hj,rfl⟩
 | none =>
  unfold Cl at h;rw[List.find?_eq_none]at h;exact .inr ⟨fun j hj=>by simpa using h j (by simpa using hj),rfl⟩
def Hl(n:Nat)(f:Nat->Int):Int:=match Cl n (fun j=>f j != 0) with|some i=>f i|none=>0
theorem Db{n i f}(h:∀j,j<i->f j=0)(hi:i<n){v}(hf:f i=v)(hv:v≠0):Hl n f=v:=by subst hf;unfold Hl;rw[Fh (i:=i) (fun j hj=>by simp[h j hj]) hi (by simpa using hv)]
theorem Fb{n f}(h:∀j,j<n->f j=0):Hl n f=0:=by unfold Hl;rw[Ep fun j hj=>by simp[h j hj]]
theorem Fx{n f}:Hl n f=0↔∀j,j<n->f j=0:=by
 refine⟨fun h=>?_,Fb⟩;rcases Ft (n:=n) (p:=fun j=>f j != 0) with⟨i,hi,hp,hlt,he⟩|⟨a,_⟩
 ·unfold Hl at h;rw[he]at h;exact absurd h (by simpa using hp)
 ·exact fun j hj=>by simpa using a j hj
def Xi(l:List ByteArray)(s:ByteArray)(j:Nat):Bool:=match l[j]? with|some x=>x.toList==s.toList|none=>false
def Aht(l:List ByteArray)(s:ByteArray):Int:=match Cl l.length (Xi l s) with|some i=>(i:Int)|none=>-1
def orF(a b:Int):Int:=if a=0 then b else a
theorem Gr{a b}(h:a=0):orF a b=b:=by simp[orF,h]
theorem Ry{a b}(h:a≠0):orF a b=a:=by simp[orF,h]
theorem Jx{a b}:orF a b=0↔a=0/\b=0:=by
 unfold orF;split
 ·rename_i h;simp[h]
 ·rename_i h;simp[h]
def atP{α:Type}(l:List α)(p:α->Bool)(i:Nat):Bool:=match l[i]? with|some x=>p x|none=>false
def Oi{α:Type}(l:List α)(p:α->Bool):Int:=match Cl l.length (atP l p) with|some i=>(i:Int)|none=>-1
theorem Yq{α:Type}{l:List α}{p:α->Bool}:decide (Oi l p>=0)=l.any p:=by
 rw[Amq,decide_eq_true_eq,Aqj];unfold Oi;rcases Ft (n:=l.length) (p:=atP l p) with⟨i,hi,hp,_,he⟩|⟨a,he⟩
 ·rw[he];simp only[ge_iff_le,Ats,true_iff];unfold atP at hp;cases hx:l[i]? with
  | none=>rw[hx]at hp;cases hp
  | some x=>rw[hx]at hp;exact⟨x,lZ6 hx,hp⟩
 ·rw[he];constructor
  ·intro h;simp at h
  ·rintro⟨x,hx,hs⟩;obtain⟨i,hi⟩:=Se hx;have:=a i (lZ1.1 hi).1;unfold atP at this;simp only[hi,hs]at this;cases this
def inL(l:List ByteArray)(k:ByteArray):Bool:=l.any fun x=>k.toList==x.toList
theorem Yl{l s}:Aht l s>=0↔inL l s=true:=by
 unfold Aht inL;rcases Ft (n:=l.length) (p:=Xi l s) with⟨i,hi,hp,_,he⟩|⟨b,he⟩
 ·rw[he];simp only[ge_iff_le,Ats,true_iff,Aqj];unfold Xi at hp;cases hx:l[i]? with
  | none=>rw[hx]at hp;cases hp
  | some x =>
   rw[hx]at hp;exact⟨x,lZ6 hx,by rw[eq_of_beq hp];simp⟩
 ·rw[he];simp only[ge_iff_le,Aqj];constructor
  ·intro h;omega
  ·rintro⟨x,hx,hs⟩;obtain⟨i,hi⟩:=Se hx;have:=b i (lZ1.1 hi).1;unfold Xi at this;rw[hi,eq_of_beq hs]at this;simp at this
theorem Akl{s}:(s.data.toList.any fun c=>Ov ((c.toNat:Nat):Int)) = !(List.range s.size).all (Alm s):=by
 rw[Amq];simp only[Aqj,Bool.not_eq_true',List.all_eq_false,Bdv];have a:∀i (h:i<s.size),s[i]?=some (s.data[i]'h):=fun i h=>by
  rw[getElem?_pos s i h];rfl
 constructor
 ·rintro⟨c,hc,hb⟩;obtain⟨i,hi,rfl⟩:=Bmn hc;have hi':i<s.size:=by simpa using hi
  refine⟨i,hi',?_⟩;simp only[Alm,a i hi'];simpa using hb
 ·rintro⟨i,hi,hb⟩;refine⟨s.data[i]'hi,by simp,?_⟩;simp only[Alm,a i hi]at hb;simpa using hb
end
section
variable{mn:Bool}{X:Frame->List Frame->Ro->Own->Cy->Prop}{Y:Ro}{Z:Own}
theorem Bwn{n low high}:CallsH (CX mn X) 46 #[iV n,iV low,iV high] Y Z (rP Y Z (.bool (inR n low high))):=by
 refine Bu 15 [6] Cfk rfl fun Q b h=>qA fun f d=>Au bF (qC d fun g c=>Av (iV low) (Av (iV n) (l_v (Uz rfl rfl) (Av (.bool (decide (low<=n))) (Cn (decide (low<=n)) (fun a=>?_) (fun a=>?_))))))
 ·have e:=lZ3 a;refine l_M (iV n) (qF a) rfl (l_M (iV high) (qF a) rfl (Aa (qF a) (Uz rfl rfl) (l_v (Bt rfl a (v:=.bool (decide (n<=high))) rfl) (Au (.bool (decide (n<=high))) (l_k c (Aq (b (rT (.bool (decide (n<=high))) ?_))))))));simp only[inR,a,bZl]
 have e:=lZ2 a;refine Ap (gN rfl a) (Ap (gN rfl a) (Ap (gN rfl a) (l_v (Bn rfl a (v:=bF) rfl) (Au bF (l_k c (Aq (b (rT bF ?_))))))));simp only[inR,a,bZl]
theorem Bkh{s}:CallsH (CX mn X) 22 #[.string s] Y Z (rP Y Z (.bool (Hg s))):=by
 refine Bu 46 [2] Tryz.func22 rfl fun Q E aq=>qA fun K1 O=>Au bF (Ary rfl rfl O fun K2 K3 YQ H=>Av (.string s) (l_v (Afz Cdn (s:=s) rfl) (Arv (Cw Bwn Cfk ?_))));refine l_v (Iy rfl) (Av (.bool (!(inR (s.size:Int) 1 14))) (Cn (!(inR (s.size:Int) 1 14)) (fun b=>?_) (fun b=>?_)))
 ·have I:=not_eq_t b;have q5:=Aic.1 I;refine Ap (gN rfl b) (Ap (gN rfl b) (Ap (gN rfl b) (l_v (Bt rfl b (v:=bT) rfl) (Av bT (Ap (gN rfl rfl) (Ap (gN rfl rfl) (Ap (gN rfl rfl) (l_v (Bt rfl rfl (v:=bT) rfl) (l_k H (Co rfl rfl (qA fun K6 k6=>Au bF (l_k k6 (Aq (E (rT bF ?_)))))))))))))));simp only[Hg,Qb,b,I,bZl]
 have k:=Ha b;have q7:=Fz.1 k;refine l_M (.string s) (qF b) rfl ?_;obtain⟨B,D⟩:=Alc (s:=s) (i:=0) (by omega);refine Aa (qF b) (Ace 0 B Cdn rfl (q:=0) rfl rfl D) (Aa (qF b) (Da rfl rfl) (l_v (Bn rfl b (v:=.bool (decide ((B.toNat:Int)<97))) rfl) (Av (.bool (decide ((B.toNat:Int)<97))) (Cn (decide ((B.toNat:Int)<97)) (fun c=>?_) (fun c=>?_)))))
 ·have q9:=lZ3 c;refine Ap (gN rfl c) (Ap (gN rfl c) (Ap (gN rfl c) (l_v (Bt rfl c (v:=bT) rfl) (l_k H (Co rfl rfl (qA fun ae P=>Au bF (l_k P (Aq (E (rT bF ?_))))))))));simp only[Hg,Qb,D,b,k,c,bZl]
 have q9:=lZ2 c;refine l_M (.string s) (qF c) rfl (Aa (qF c) (Ace 0 B Cdn rfl (q:=0) rfl rfl D) (Aa (qF c) (Gl rfl rfl) (l_v (Bn rfl c (v:=.bool (decide ((B.toNat:Int)>122))) rfl) (l_k H (Bp (t:=decide ((B.toNat:Int)>122)) rfl (fun f=>?_) (fun f=>?_))))))
 ·have a6:=lZ3 f;refine qA fun af R=>Au bF (l_k R (Aq (E (rT bF ?_))));simp only[Hg,Qb,D,b,k,c,f,bZl]
 have a6:=lZ2 f;refine Al (kk YQ ?_);refine qD fun ag ah T U=>Au (iV 0) (l_k U (Ao (Cc (fun mm ee dd Y' Z'=>∃(i:Nat),(s.size-i)=mm/\[]=dd/\Y=Y'/\Z=Z'/\ee 0=(.string s)/\ee 3=iV i/\(i<=s.size)/\(∀j,j<i->Alm s j=true)/\True) (m:=_) ⟨0,rfl,rfl,rfl,rfl,rfl,rfl,Hn _,fun j h=>absurd h (Uk _),trivial⟩ ?_)));rintro ar ao _ _ _ ⟨i,rfl,rfl,rfl,rfl,y,z,au,J,_⟩;refine qD fun ai aj V W=>l_v (Ah (v:=iV i) z) (l_v (Ah (v:=.string s) y) (l_v (Afz Cdn (s:=s) rfl) (l_v (Da rfl rfl) (l_k W (Bp (t:=decide ((i:Int)<(s.size:Int))) rfl (fun g=>?_) (fun g=>?_))))))
 ·have a7:=lZ3 g;refine Al (kk V ?_);refine Ai fun ak ZQ=>Ao (qA fun al a0=>l_v (Ah (v:=.string s) y) (l_v (Ah (v:=iV i) z) ?_));obtain⟨a,x⟩:=Alc (s:=s) (i:=i) (by omega);refine l_v (Ace i a Cdn rfl (q:=(i:Int)) rfl rfl x) (Au (.int .u8 (a.toNat:Int)) (Asa a0 fun K a1=>?_));have C:∀(bd:Bool) (ee:Env),(ee 0=(.string s))/\(ee 3=iV i)/\(ee 45=(.bool bd))/\(bd=true->Alm s i=false)/\(bd=false->Alm s i=true)/\True->K ee [] Y Z:=by
   rintro bd ap ⟨L,M,N,a4,a5,_⟩;apply a1;refine Bp (t:=bd) N (fun F=>?_) (fun F=>?_)
   ·refine qA fun am a2=>Au bF (l_k a2 (Aq (E (rT bF ?_))));have G:=Btq (by omega) (a4 F);simp only[Hg,G,b,k,c,f,g,F,bZl]
   refine Al (kk ZQ ?_);refine qB (l_v (Ah (v:=iV i) M) (l_v (Fp (((i+1):Nat):Int)) (Au (iV ((i+1):Nat)) (Ac ?_))));refine⟨_,?_,(i+1),rfl,rfl,rfl,rfl,L,rfl,(by omega),(Eg J (a5 F)),trivial⟩;omega
  refine qB (Av (.int .u8 (a.toNat:Int)) (l_v (Da rfl rfl) (Av (.bool (decide ((a.toNat:Int)<97))) (Cn (decide ((a.toNat:Int)<97)) (fun e=>?_) (fun e=>?_)))))
  ·have a8:=lZ3 e;refine Ap (gN rfl e) (Ap (gN rfl e) (l_v (Bt rfl e (v:=bT) rfl) (Av bT (l_M (.int .u8 (a.toNat:Int)) (gY rfl rfl) rfl (Aa (gY rfl rfl) (Da rfl rfl) (l_M (.bool (decide ((a.toNat:Int)<48))) (gY rfl rfl) rfl (Cn (decide ((a.toNat:Int)<48)) (fun n=>?_) (fun n=>?_))))))))
   ·have a9:=lZ3 n;refine Ap (gN rfl n) (Ap (gN rfl n) (Aa (gY rfl rfl) (Bt rfl n (v:=bT) rfl) (l_v (Bt rfl rfl (v:=bT) rfl) (Av bT (l_M (.int .u8 (a.toNat:Int)) (gY rfl rfl) rfl (Aa (gY rfl rfl) (Dg rfl rfl) (l_v (Bt rfl rfl (v:=.bool ((a.toNat:Int) != 45)) rfl) (Ac ?_))))))));refine C ((a.toNat:Int) != 45) _ ⟨y,z,rfl,fun h=>by simp only[Alm,x,Ov,h,b,k,c,f,g,e,n,bZl],fun h=>by simp only[Alm,x,Ov,h,b,k,c,f,g,e,n,bZl],trivial⟩
   have a9:=lZ2 n;refine l_M (.int .u8 (a.toNat:Int)) (qF n) rfl (Aa (qF n) (Gl rfl rfl) (Aa (gY rfl rfl) (Bn rfl n (v:=.bool (decide ((a.toNat:Int)>57))) rfl) (l_v (Bt rfl rfl (v:=.bool (decide ((a.toNat:Int)>57))) rfl) (Av (.bool (decide ((a.toNat:Int)>57))) (Cn (decide ((a.toNat:Int)>57)) (fun u=>?_) (fun u=>?_))))))
   ·have aa:=lZ3 u;refine l_M (.int .u8 (a.toNat:Int)) (qF u) rfl (Aa (qF u) (Dg rfl rfl) (l_v (Bt rfl u (v:=.bool ((a.toNat:Int) != 45)) rfl) (Ac ?_)));refine C ((a.toNat:Int) != 45) _ ⟨y,z,rfl,fun h=>by simp only[Alm,x,Ov,h,b,k,c,f,g,e,n,u,bZl],fun h=>by simp only[Alm,x,Ov,h,b,k,c,f,g,e,n,u,bZl],trivial⟩
   have aa:=lZ2 u;refine Ap (gN rfl u) (Ap (gN rfl u) (l_v (Bn rfl u (v:=bF) rfl) (Ac ?_)));refine C false _ ⟨y,z,rfl,fun h=>absurd h (by decide),fun h=>by simp only[Alm,x,Ov,b,k,c,f,g,e,n,u,bZl],trivial⟩
  have a8:=lZ2 e;refine l_M (.int .u8 (a.toNat:Int)) (qF e) rfl (Aa (qF e) (Gl rfl rfl) (l_v (Bn rfl e (v:=.bool (decide ((a.toNat:Int)>122))) rfl) (Av (.bool (decide ((a.toNat:Int)>122))) (Cn (decide ((a.toNat:Int)>122)) (fun d=>?_) (fun d=>?_)))))
  ·have ab:=lZ3 d;refine l_M (.int .u8 (a.toNat:Int)) (qF d) rfl (Aa (qF d) (Da rfl rfl) (l_M (.bool (decide ((a.toNat:Int)<48))) (qF d) rfl (Cn (decide ((a.toNat:Int)<48)) (fun p=>?_) (fun p=>?_))))
   ·have ac:=lZ3 p;refine Ap (gN rfl p) (Ap (gN rfl p) (Aa (qF d) (Bt rfl p (v:=bT) rfl) (l_v (Bt rfl d (v:=bT) rfl) (Av bT (l_M (.int .u8 (a.toNat:Int)) (gY rfl rfl) rfl (Aa (gY rfl rfl) (Dg rfl rfl) (l_v (Bt rfl rfl (v:=.bool ((a.toNat:Int) != 45)) rfl) (Ac ?_))))))));refine C ((a.toNat:Int) != 45) _ ⟨y,z,rfl,fun h=>by simp only[Alm,x,Ov,h,b,k,c,f,g,e,d,p,bZl],fun h=>by simp only[Alm,x,Ov,h,b,k,c,f,g,e,d,p,bZl],trivial⟩
   have ac:=lZ2 p;refine l_M (.int .u8 (a.toNat:Int)) (qF p) rfl (Aa (qF p) (Gl rfl rfl) (Aa (qF d) (Bn rfl p (v:=.bool (decide ((a.toNat:Int)>57))) rfl) (l_v (Bt rfl d (v:=.bool (decide ((a.toNat:Int)>57))) rfl) (Av (.bool (decide ((a.toNat:Int)>57))) (Cn (decide ((a.toNat:Int)>57)) (fun w=>?_) (fun w=>?_))))))
   ·have ad:=lZ3 w;refine l_M (.int .u8 (a.toNat:Int)) (qF w) rfl (Aa (qF w) (Dg rfl rfl) (l_v (Bt rfl w (v:=.bool ((a.toNat:Int) != 45)) rfl) (Ac ?_)));refine C ((a.toNat:Int) != 45) _ ⟨y,z,rfl,fun h=>by simp only[Alm,x,Ov,h,b,k,c,f,g,e,d,p,w,bZl],fun h=>by simp only[Alm,x,Ov,h,b,k,c,f,g,e,d,p,w,bZl],trivial⟩
   have ad:=lZ2 w;refine Ap (gN rfl w) (Ap (gN rfl w) (l_v (Bn rfl w (v:=bF) rfl) (Ac ?_)));refine C false _ ⟨y,z,rfl,fun h=>absurd h (by decide),fun h=>by simp only[Alm,x,Ov,b,k,c,f,g,e,d,p,w,bZl],trivial⟩
  have ab:=lZ2 d;refine Ap (gN rfl d) (Ap (gN rfl d) (Ap (gN rfl d) (Ap (Jf rfl rfl rfl) (Ap (Jf rfl rfl rfl) (Ap (gN rfl d) (l_v (Bn rfl d (v:=bF) rfl) (Av bF (Ap (gN rfl rfl) (Ap (gN rfl rfl) (l_v (Bn rfl rfl (v:=bF) rfl) (Ac ?_)))))))))));refine C false _ ⟨y,z,rfl,fun h=>absurd h (by decide),fun h=>by simp only[Alm,x,Ov,b,k,c,f,g,e,d,bZl],trivial⟩
 have a7:=lZ2 g;refine Bx (kk T ?_);refine qA fun an a3=>Au bT (l_k a3 (Aq (E (rT bT ?_))));have G:=Ber.2 fun j hj=>J j (by omega);simp only[Hg,Qb,G,D,b,k,c,f,g,bZl]
theorem Ass{l vl s}(rl:Val Y vl l):CallsH (CX mn X) 17 #[vl,.string s] Y Z (rP Y Z (iV (Aht l s))):=by
 refine Bu 19 [4] Cfb rfl fun Q u YQ=>qA fun J x=>Au (iV 0) (qE x fun N O C D=>Au (iV 0) (l_k D (Ao (Cc (fun mm ee dd Y' Z'=>∃(i:Nat),(l.length-i)=mm/\[]=dd/\Y=Y'/\Z=Z'/\ee 0=vl/\ee 1=(.string s)/\ee 5=iV i/\(i<=l.length)/\(∀j,j<i->Xi l s j=false)/\True) (m:=_) ⟨0,rfl,rfl,rfl,rfl,rfl,rfl,rfl,Hn _,fun j h=>absurd h (Uk _),trivial⟩ ?_))));rintro ZQ U _ _ _ ⟨i,rfl,rfl,rfl,rfl,d,k,c,a0,f,_⟩;refine qD fun P R E F=>l_v (Ah (v:=iV i) c) (l_v (Ah (v:=vl) d) ?_);have W:=Val.len rl;refine l_v (Ci (el:=9) Cdq rfl rl) (l_v (Da rfl rfl) (l_k F (Bp (t:=decide ((i:Int)<(l.length:Int))) rfl (fun b=>?_) (fun b=>?_))))
 ·have I:=lZ3 b;refine Al (kk E ?_);refine Ai fun T G=>Ao (qA fun K y=>l_v (Ah (v:=vl) d) (l_v (Ah (v:=iV i) c) ?_));obtain⟨g,e⟩:=Ed (xs:=l) (i:=i) (by omega);refine Arw (Ch i Cdq ty9 rfl rl (q:=(i:Int)) rfl rfl e) fun a1 w=>?_;have V:=At.slen w;refine l_v (Pk ty9 rfl w) (l_v (Ah (v:=.string s) k) (l_v (Ain (p:=g) (q:=s) rfl rfl) (l_k y (Bp (t:=(g).toList==(s).toList) rfl (fun a=>?_) (fun a=>?_)))))
  ·have H:=Jr a;refine qA fun L z=>l_v (Ah (v:=iV i) c) (Au (iV i) (l_k z (Aq (u (rT (iV i) ?_)))));have hi:=Fh (n:=l.length) f (by omega) (show Xi l s i=true by simp only[Xi,e,b,a]);simp only[Aht,hi]
  have H:=Jq a;refine Al (kk G ?_);refine qB (l_v (Ah (v:=iV i) c) (l_v (Fp (((i+1):Nat):Int)) (Au (iV ((i+1):Nat)) (Ac ?_))));refine⟨_,?_,(i+1),rfl,rfl,rfl,rfl,d,k,rfl,(by omega),(Eg f (by simp only[Xi,e,b,a])),trivial⟩;omega
 have I:=lZ2 b;refine Bx (kk C ?_);refine qA fun M B=>Au (iV (-1)) (l_k B (Aq (u (rT (iV (-1)) ?_))));have hn:=Ep (n:=l.length) fun j hj=>f j (by omega);simp only[Aht,hn]
end
section
variable{mn:Bool}{X:Frame->List Frame->Ro->Own->Cy->Prop}{Y:Ro}{Z:Own}
theorem Ya{l:List UInt8}{vl f:Value}{p:UInt8->Bool}(rl:Val Y vl l)(hf:Su f p):CallsH (CX mn X) 130 #[vl,f] Y Z (rP Y Z (iV (Oi l p))):=by
 refine Bu 19 [4] Tryz.func130 rfl fun Q y a0=>qA fun N B=>Au (iV 0) (Ary rfl rfl B fun U V G H=>Av vl ?_);have g4:=Val.len rl;refine l_v (Ci (el:=5) Cdx rfl rl) (Av (iV 0) (l_k H (Ao (Cc (fun mm ee dd Y' Z'=>∃(i:Nat),(l.length-i)=mm/\[]=dd/\Y=Y'/\Z=Z'/\ee 0=vl/\ee 1=f/\ee 7=(iV (l.length:Int))/\ee 8=iV i/\(i<=l.length)/\(∀j,j<i->atP l p j=false)/\True) (m:=_) ⟨0,rfl,rfl,rfl,rfl,rfl,rfl,rfl,rfl,Hn _,fun j h=>absurd h (Uk _),trivial⟩ ?_))));rintro m5 e5 _ _ _ ⟨i,rfl,rfl,rfl,rfl,u,w,x,e,a1,k,_⟩;refine qA fun W I=>l_v (Da e x) (Asa I fun YQ J=>Bp (t:=decide ((i:Int)<(l.length:Int))) rfl (fun b=>?_) (fun b=>?_))
 ·have L:=lZ3 b;refine Al (kk J ?_);refine Ai fun ZQ K=>Ao (qA fun O C=>l_v (Ah (v:=iV i) e) (Au (iV i) (Arx rfl rfl C fun P D=>l_v (Ah (v:=f) w) (l_v (Ah (v:=vl) u) (Av (iV i) ?_)))));obtain⟨c,g⟩:=Ed (xs:=l) (i:=i) (by omega);refine Arw (Ch i Cdx ty5 rfl rl (q:=(i:Int)) rfl rfl g) fun a2 M=>l_v (Aaf ty5 rfl M) (Arv (Ajp (pr:=p) (a:=c) (v:=.int .u8 (c.toNat:Int)) hf rfl rfl (Uq.2 rfl) ?_));refine l_k D (Bp (t:=p c) rfl (fun d=>?_) (fun d=>?_))
  ·refine qA fun R E=>Av (iV i) (Au (iV i) (l_k E (Aq (y (rT (iV i) ?_)))));have hi:=Fh (n:=l.length) k (by omega) (show atP l p i=true by simp only[atP,g,b,d]);simp only[Oi,hi]
  refine Al (kk K ?_);refine qB (l_v (Br e rfl (z:=(((i+1):Nat):Int)) wrE) (Av (iV ((i+1):Nat)) (Ac ?_)));refine⟨_,?_,(i+1),rfl,rfl,rfl,rfl,u,w,x,rfl,(by omega),(Eg k (by simp only[atP,g,b,d])),trivial⟩;omega
 have L:=lZ2 b;refine Bx (kk G ?_);refine qA fun T F=>Au (iV (-1)) (l_k F (Aq (y (rT (iV (-1)) ?_))));have hn:=Ep (n:=l.length) fun j hj=>k j (by omega);simp only[Oi,hn]
theorem Ta{l:List UInt8}{vl f p}(rl:Val Y vl l)(hf:Su f p):CallsH (CX mn X) 81 #[vl,f] Y Z (rP Y Z (.bool (l.any p))):=by refine Bu 9 [4] Tryz.func81 rfl fun Q a g=>qA fun d b=>Au bF (qC b fun e c=>Av vl (Av f (Arv (Cw (Ya rl hf) Tryz.func130 ?_))));refine l_v (Uy rfl rfl) (Au (.bool (decide (Oi l p>=0))) (l_k c (Aq (a (rT (.bool (decide (Oi l p>=0))) ?_)))));rw[Yq]
end
section
def Cu(s k:Nat):Bool:=(s>>>k)%2==1
def De(s:Nat):Nat:=((List.range 8).map fun k=>(s>>>k)%2).sum
def Bw(l:List Nat):List Int:=l.map Int.ofNat
theorem Fc{l:List Nat}:(Bw l).length=l.length:=by simp[Bw]
theorem Ts{l:List Nat}{i:Nat}{z:Int}(h:(Bw l)[i]?=some z):∃a,l[i]?=some a/\z=(a:Int):=by unfold Bw at h;rw[Pb]at h;obtain⟨a,ha,rfl⟩:=Option.map_eq_some_iff.1 h;exact⟨a,ha,rfl⟩
theorem Nl{p q:Nat}(h:p<2^63):p>>>q<2^63:=Aqi (Axc p q) h
def Gw(set i:Nat):Bool:=(((set>>>i) &&& 1:Nat):Int)==1
def elems(s:Nat):List Nat:=(List.range 16).filter (Cu s)
def Bf(l:List Nat):Nat:=l.foldl (fun a x=>a ||| 1 <<< x) 0
theorem Abi(l:List Nat)(a k:Nat):(l.foldl (fun a x=>a ||| 1 <<< x) a).testBit k=(a.testBit k||l.contains k):=by
 induction l generalizing a with
 | nil=>simp
 | cons x l ih =>
  simp only[Axd,ih,Amt,List.contains_cons];have:(1 <<< x).testBit k=(k==x):=by
   rw[Aov,Nat.testBit_two_pow];by_cases h:x=k
   ·simp[h]
   ·simp[h,Ne.symm h]
  rw[this,Bool.or_assoc]
theorem Ng(l:List Nat)(k:Nat):(Bf l).testBit k=l.contains k:=by unfold Bf;rw[Abi];simp
theorem Ez(s k:Nat):Cu s k=s.testBit k:=by unfold Cu Nat.testBit;rw[Nat.one_and_eq_mod_two];rcases Nat.mod_two_eq_zero_or_one (s>>>k) with h|h<;>simp[h]
theorem Sl{l:List Nat}{n:Nat}(h:∀a∈l,a<n):Bf l<2^n:=by refine Nat.lt_pow_two_of_testBit _ fun i hi=>?_;rw[Ng];simp only[List.contains_eq_mem,decide_eq_false_iff_not];exact fun hm=>absurd (h i hm) (by omega)
theorem Tl{l:List Nat}(h:l.Sublist (List.range 16)):elems (Bf l)=l:=by
 have b:elems (Bf l)=(List.range 16).filter (fun a=>l.contains a):=by
  unfold elems;congr 1;funext a;rw[Ez,Ng]
 rw[b];have hnd:(List.range 16).Nodup:=List.nodup_range;clear b;revert h hnd;generalize List.range 16=r;intro h hnd;induction h with
 | slnil=>rfl
 | cons a h ih =>
  rename_i l1 l2;rw[Tb]at hnd;have ha:¬a∈l1:=fun hm=>hnd.1 (h.subset hm);rw[List.filter_cons_of_neg (by simpa using ha)];exact ih hnd.2
 | cons_cons a h ih =>
  rename_i l1 l2;rw[Tb]at hnd;rw[List.filter_cons_of_pos (by simp)];have c:l2.filter (fun x=>(a::l1).contains x)=l2.filter (fun x=>l1.contains x):=by
   apply List.filter_congr;intro x hx;have hxa:x≠a:=fun e=>hnd.1 (e ▸ hx);simp[hxa]
  rw[c,ih hnd.2]
def Df:Nat->(Nat->Int)->Int
 | 0,_=>0
 | n+1,f=>Df n f+f n
theorem Et{n:Nat}{f g:Nat->Int}(h:∀i,i<n->f i=g i):Df n f=Df n g:=by
 induction n with
 | zero=>rfl
 | succ n ih=>simp only[Df];rw[ih fun i hi=>h i (by omega),h n (by omega)]
theorem Oe{n:Nat}{f g:Nat->Int}(h:∀i,i<n->f i<=g i):Df n f<=Df n g:=by
 induction n with
 | zero=>exact Ve _
 | succ n ih=>simp only[Df];have:=ih fun i hi=>h i (by omega);have:=h n (by omega);omega
theorem Ii{n:Nat}{f:Nat->Int}(h:∀i,i<n->f i=0):Df n f=0:=by
 induction n with
 | zero=>rfl
 | succ n ih=>simp only[Df];rw[ih fun i hi=>h i (by omega),h n (by omega)];rfl
theorem Sa{n:Nat}{f:Nat->Int}(h:∀i,i<n->0<=f i):0<=Df n f:=by have:=Oe (n:=n) (f:=fun _=>0) (g:=f) h;rw[Ii fun _ _=>rfl]at this;exact this
theorem Ajf{n:Nat}{f g:Nat->Int}:Df n (fun i=>f i+g i)=Df n f+Df n g:=by
 induction n with
 | zero=>rfl
 | succ n ih=>simp only[Df,ih];omega
theorem Mb{n k:Nat}{f g:Nat->Int}(hk:k<n)(h:∀i,i<n->i≠k->g i=f i):Df n g=Df n f+(g k-f k):=by
 induction n with
 | zero=>omega
 | succ n ih =>
  simp only[Df];by_cases hkn:k=n
  ·subst hkn;rw[Et (g:=f) fun i hi=>h i (by omega) (by omega)];omega
  ·rw[ih (by omega) fun i hi hik=>h i (by omega) hik,h n (by omega) (by omega)];omega
theorem Afo{n k l:Nat}{f g:Nat->Int}(hk:k<n)(hl:l<n)(hkl:k≠l)(h:∀i,i<n->i≠k->i≠l->g i=f i):Df n g=Df n f+(g k-f k)+(g l-f l):=by
 have a:=Mb (n:=n) (k:=k) (f:=f) (g:=fun i=>if i=k then g k else f i) hk (fun i _ hik=>by simp[hik]);have b:=Mb (n:=n) (k:=l) (f:=fun i=>if i=k then g k else f i) (g:=g) hl (fun i hi hil=>by
  by_cases hik:i=k
  ·simp[hik]
  ·simp[hik,h i hi hik hil])
 simp only[if_true,if_neg (Ne.symm hkl)]at a b;omega
theorem Pz(set i:Nat):Gw set i=set.testBit i:=by unfold Gw Nat.testBit;rw[Nat.and_comm];rcases Nat.mod_two_eq_zero_or_one (set>>>i) with h|h<;>simp[Nat.one_and_eq_mod_two,h]
theorem atE{α:Type}[Dat α]{Y:Ro}{w p:Value}{x:α}(h:w=p)(hx:At Y p x):At Y w x:=by rw[h];exact hx
end
section
def Akh(P:Program)(Y:Ro)(Z:Own)(e:Env):ResultVar->Value->Prop
 | .tmp t,v=>e t=v
 | .cell a t,v=>∀Q:Value->Own->Prop,Q v Z->wpS P Y (do loadVar t (<-asAddr (e a))) Z Q
def Agf(P:Program)(Y:Ro)(Z:Own)(e:Env):List ResultVar->List Value->Prop
 | [],[]=>True
 | r::rs,v::vs=>Akh P Y Z e r v/\Agf P Y Z e rs vs
 | _,_=>False
def Adi:List Value->Value
 | [v]=>v
 | vs=>.tuple vs.toArray
theorem Vf{P Y Z fn rs vs e Q}(hr:fn.results=rs.toArray)(hl:Agf P Y Z e rs vs)(h:Q (Adi vs) Z):wpS P Y (Hp fn e) Z Q:=by
 have key:∀(g:ResultVar->Sem Value) (_:∀r v,Akh P Y Z e r v->∀Q:Value->Own->Prop,Q v Z->wpS P Y (g r) Z Q) (rs:List ResultVar) (vs:List Value) (acc:Array Value) (Q:Array Value->Own->Prop),Agf P Y Z e rs vs->Q (acc++vs.toArray) Z->wpS P Y (List.foldlM (m:=Sem) (fun (bs:Array Value) (a:ResultVar)=>Functor.map bs.push (g a)) acc rs) Z Q:=by
  intro g hg rs;induction rs with
  | nil =>
   intro vs acc Q hl h;cases vs with
   | nil=>show Q acc Z;simpa using h
   | cons v vs=>exact hl.elim
  | cons r rs ih =>
   intro vs acc Q hl h;cases vs with
   | nil=>exact hl.elim
   | cons v vs =>
    obtain⟨c,d⟩:=hl;rw[Aqk];show wpS P Y (((g r).bind fun x=>pure (acc.push x)).bind _) Z Q;rw[Ad,Ad];refine hg r v c _ ?_;refine ih vs (acc.push v) Q d ?_;have b:acc.push v++vs.toArray=acc++(v::vs).toArray:=by simp
    rw[b];exact h
 unfold Hp;rw[hr,Bau,Bmm];show wpS P Y (Sem.bind _ _) Z Q;rw[Ad];refine key _ ?_ rs vs #[] _ hl ?_
 ·intro r v hv Q hQ;cases r with
  | tmp t=>cases hv;exact hQ
  | cell a t=>exact hv Q hQ
 ·rw[Ack];show Q _ Z;cases vs with
  | nil=>exact h
  | cons v vs =>
   cases vs with
   | nil=>exact h
   | cons w vs=>simpa[Adi]using h
theorem Rj{P Y Z e}{a off i:Nat}{t t' r}{c:List Value}{fz v}(hT:∃d,P.underlying t=some d/\Qv d=false)(ha:e a = .pointer (some ⟨r,off,none⟩))(hi:Z[i]?=some (r,.obj (.cells c.toArray t' fz)))(hc:c[off]?=some v):Akh P Y Z e (.cell a t) v:=by intro Q hQ;rw[ha];show wpS P Y (loadVar t ⟨r,off,none⟩) Z _;show wpS P Y ((isAgg t).bind _) Z _;rw[Ad];refine Hi hT ?_;exact⟨rfl,rfl,_,v,.inr (lZ6 hi),by simpa[Gy]using hc,hQ⟩
theorem Lt{C f fn c n args Y Z R}(rs:List ResultVar)(hf:C.P.funcs[f]?=some fn)(hc:fn.body=some c)(hn:fn.ntmps=n)(ha:Nat.ble args.length n=true)(hr:fn.results=rs.toArray)(h:∀Q:Hu,(∀e Y' Z' Y'' Z'' vs,Agf C.P Y' Z' e rs vs->Ghost Y' Z' Y'' Z''->R (Adi vs) Y'' Z''->Q .ret e [] Y' Z')->(∀e Y' Z' Y'' Z'' vs,Agf C.P Y' Z' e rs vs->Ghost Y' Z' Y'' Z''->R (Adi vs) Y'' Z''->Q .normal e [] Y' Z')->WpC C ⟨f,.normal,none⟩ n c Q (Pn args) [] Y Z):CallsH C f args.toArray Y Z R:=by
 have a:CallsH C f args.toArray Y Z (fun v Y' Z'=>∃Y'' Z'',Ghost Y' Z' Y'' Z''/\R v Y'' Z''):=by
  refine Oy hf hc hn (lZ7 ha) (h _ (fun e Y' Z' Y'' Z'' vs hl hg hR=>⟨fun id h=>(by cases h),?_⟩) (fun e Y' Z' Y'' Z'' vs hl hg hR=>⟨fun id h=>(by cases h),?_⟩)) <;>
  exact Vf (Q:=fun v Z'=>∃Y'' Z'',Ghost Y' Z' Y'' Z''/\R v Y'' Z'') hr hl ⟨Y'',Z'',hg,hR⟩
 intro c' cs;refine(a c' cs).bind ?_;rintro _ _ Y' Z' ⟨v,rfl,rfl,Y'',Z'',hg,hR⟩;exact .ghost hg (.stop ⟨v,rfl,rfl,hR⟩)
section
variable{C:Ctx}{e:Env}{ds:List Deferred}{Y:Ro}{Z:Own}{K:Value->List Deferred->Ro->Own->Prop}{rd:Option Nat}{dd:Option Tmp}
variable{ty:TypeId}{pos:String}{af:Array Edge}{g:Option (Nat×Bool)}{x y:Operand}{v:Value}{t t':TypeId}
end
section
variable{C:Ctx}{e:Env}{ds:List Deferred}{Y:Ro}{Z:Own}{K:Value->List Deferred->Ro->Own->Prop}{rd:Option Nat}{dd:Option Tmp}
variable{ty:TypeId}{pos:String}{af:Array Edge}{g:Option (Nat×Bool)}{x y:Operand}{v:Value}{t t':TypeId}
theorem Gu{r off}{c:List Value}{fz}(hT:∃d,C.P.underlying t=some d/\Qv d=false)(hx:Af e x = .pointer (some ⟨r,off,none⟩))(hi:(r,Res.obj (.cells c.toArray t' fz))∈Z)(hc:c[off]?=some v)(h:K v ds Y Z):
  wpS C.P Y (execOp (Af e) ⟨dd,.load t x,ty,pos,af,g⟩) Z (NextH C K rd ds Y):=by obtain⟨i,hi⟩:=Bmg.1 hi;exact Dt hT hx hi hc h
end
end
section
theorem Qh{P Y Z e}{a i n':Nat}{t t' r}{cs:List Value}{fz}(hT:∃d,P.underlying t=some d/\Qv d=true)(hz:∃i,P.info? t=some i/\i.size=n')(ha:e a = .pointer (some ⟨r,0,none⟩))(hi:Z[i]?=some (r,.obj (.cells cs.toArray t' fz)))(hn:cs.length=n'):Akh P Y Z e (.cell a t) (.agg cs.toArray):=by
 intro Q hQ;rw[ha];show wpS P Y (loadVar t ⟨r,0,none⟩) Z _;show wpS P Y ((isAgg t).bind _) Z _;rw[Ad];refine Hi hT ?_;show wpS P Y ((sizeOf t).bind fun n=>(loadCells ⟨r,0,none⟩ n).bind _) Z _;rw[Ad];refine Dx hz ?_;rw[Ad,<-hn];refine Ff rfl (.inr (lZ6 hi)) cs 0 #[] (fun j w hj=>?_) ?_
 ·simpa[Gy]using hj
 ·have b:(#[]:Array Value)++cs.toArray=cs.toArray:=by simp
  rw[b];exact hQ
section
variable{C:Ctx}{e:Env}{ds:List Deferred}{Y:Ro}{Z:Own}{K:Value->List Deferred->Ro->Own->Prop}{rd:Option Nat}{dd:Option Tmp}
variable{ty:TypeId}{pos:String}{af:Array Edge}{g:Option (Nat×Bool)}{x y:Operand}{v:Value}{t t':TypeId}
end
end
section
def Iu(x y:Int):Int:=if x<y then -1 else if x>y then 1 else 0
def Gz:List Int->List Int->Int
 | [],[]=>0
 | [],_::_=>-1
 | _::_,[]=>1
 | x::xs,y::ys=>if Iu x y≠0 then Iu x y else Gz xs ys
theorem Wz{x y:Int}:Iu x y=0↔x=y:=by
 unfold Iu;split
 ·constructor<;>intro h<;>omega
 ·split<;>constructor<;>intro h<;>omega
theorem Tg{a b:List Int}:∀{i:Nat},(∀j,j<i->a[j]?=b[j]?)->i<=a.length->i<=b.length->Gz a b=Gz (a.drop i) (b.drop i):=by
 induction a generalizing b with
 | nil =>
  intro i h c d;obtain rfl:i=0:=by simpa using c
  rfl
 | cons x a ih =>
  intro i h c d;cases i with
  | zero=>rfl
  | succ i =>
   cases b with
   | nil=>simp at d
   | cons y b =>
    have e:=h 0 (by omega);obtain rfl:x=y:=by simpa using e
    show (if Iu x x≠0 then Iu x x else Gz a b)=_;rw[if_neg (by simp[Wz])];exact ih (fun j hj=>by simpa using h (j+1) (by omega)) (by simpa using c) (by simpa using d)
theorem Ahh{a b:List Int}{i:Nat}(h:∀j,j<i->a[j]?=b[j]?)(h1:i<a.length)(h2:i<=b.length)(h3:b.length<=i):Gz a b=1:=by rw[Tg h (by omega) h2,Awk h3,Amy h1];rfl
theorem Anf{a b:List Int}{i:Nat}{x y:Int}(h:∀j,j<i->a[j]?=b[j]?)(hx:a[i]?=some x)(hy:b[i]?=some y)(hc:Iu x y≠0):Gz a b=Iu x y:=by obtain⟨c,rfl⟩:=lZ1.1 hx;obtain⟨d,rfl⟩:=lZ1.1 hy;rw[Tg h (by omega) (by omega),Amy c,Amy d];show (if Iu _ _≠0 then Iu _ _ else _)=_;rw[if_pos hc]
theorem Acz{a b:List Int}{i:Nat}(h:∀j,j<i->a[j]?=b[j]?)(h1:i=a.length)(h2:i<=b.length):Gz a b=if a.length<b.length then -1 else 0:=by
 rw[Tg h (by omega) h2,Awk (by omega)];split
 ·rename_i hl;rw[Amy (show i<b.length by omega)];rfl
 ·rw[Awk (by omega)];rfl
variable{mn:Bool}{X:Frame->List Frame->Ro->Own->Cy->Prop}{Y:Ro}{Z:Own}
theorem Act{x:Int} :CallsH (CX mn X) 159 #[iV x] Y Z (rP Y Z bF):=by refine Bu 6 [2] Tryz.func159 rfl fun Q a f=>qA fun d b=>Au bF (qC b fun e c=>Av (iV x) (Av (iV x) (l_v (Dg rfl rfl) (Au (.bool (x != x)) (l_k c (Aq (a (rT (.bool (x != x)) ?_))))))));simp
theorem Ana{x y:Int} :CallsH (CX mn X) 127 #[iV x,iV y] Y Z (rP Y Z (iV (Iu x y))):=by
 refine Bu 20 [4] Tryz.func127 rfl fun Q c P=>qA fun B d=>Au (iV 0) (qC d fun H j=>Av (iV x) (Arv (Cw (Act (x:=x)) Tryz.func159 ?_)));refine Au bF (qC j fun I k=>Av (iV y) (Arv (Cw (Act (x:=y)) Tryz.func159 ?_)));refine Au bF (qE k fun J K m n=>Av bF (l_k n (Cg rfl rfl (Al (kk m ?_)))));refine qD fun L M p q=>Av bF (l_k q (Cg rfl rfl (Al (kk p ?_))));refine qD fun N O u v=>Av (iV x) (Av (iV y) (l_v (Da rfl rfl) (l_k v (Bp (t:=decide (x<y)) rfl (fun a=>?_) (fun a=>?_)))))
 ·have w:=lZ3 a;refine qA fun C e=>Au (iV (-1)) (l_k e (Aq (c (rT (iV (-1)) ?_))));simp only[Iu];repeat' split
  all_goals first|rfl|omega
 have w:=lZ2 a;refine Al (kk u ?_);refine qD fun D E f g=>Av (iV x) (Av (iV y) (l_v (Gl rfl rfl) (l_k g (Bp (t:=decide (x>y)) rfl (fun b=>?_) (fun b=>?_)))))
 ·have z:=lZ3 b;refine qA fun F h=>Au (iV 1) (l_k h (Aq (c (rT (iV 1) ?_))));simp only[Iu];repeat' split
  all_goals first|rfl|omega
 have z:=lZ2 b;refine Al (kk f ?_);refine qA fun G i=>Au (iV 0) (l_k i (Aq (c (rT (iV 0) ?_))));simp only[Iu];repeat' split
 all_goals first|rfl|omega
theorem Agy{a b:List Int}{va vb:Value}(ra:Val Y va a)(rb:Val Y vb b):CallsH (CX mn X) 72 #[va,vb] Y Z (rP Y Z (iV (Gz a b))):=by
 refine Bu 36 [4] Tryz.func72 rfl fun Q k am=>qA fun K1 J=>Au (iV 0) (Ary rfl rfl J fun K2 K3 P YQ=>Av va ?_);have g4:=Val.len ra;refine l_v (Ci (el:=3) Cdo rfl ra) (Av (iV 0) (l_k YQ (Ao (Cc (fun mm ee dd Y' Z'=>∃(i:Nat),(a.length-i)=mm/\[]=dd/\Y=Y'/\Z=Z'/\ee 0=va/\ee 1=vb/\ee 9=va/\ee 10=(iV (a.length:Int))/\ee 11=iV i/\(i<=a.length)/\(i<=b.length)/\(∀j,j<i->a[j]?=b[j]?)/\True) (m:=_) ⟨0,rfl,rfl,rfl,rfl,rfl,rfl,rfl,rfl,rfl,Hn _,Hn _,fun j h=>absurd h (Uk _),trivial⟩ ?_))));rintro m5 e5 _ _ _ ⟨i,rfl,rfl,rfl,rfl,E,f,G,F,g,an,ao,e,_⟩;refine qA fun K6 k6=>l_v (Da g F) (Asa k6 fun K7 k7=>Bp (t:=decide ((i:Int)<(a.length:Int))) rfl (fun w=>?_) (fun w=>?_))
 ·have q8:=lZ3 w;refine Al (kk k7 ?_);refine Ai fun K9 k9=>Ao (qA fun a3 K=>l_v (Ah (v:=iV i) g) ?_);obtain⟨c,B⟩:=Ed (xs:=a) (i:=i) (by omega);refine Arw (Ch i Cdo ty3 G ra (q:=(i:Int)) g rfl B) fun ap H=>?_;have⟨af,ag⟩:=At.rng H;refine l_v (Bc ty3 rfl H) (Au (iV i) (Au (iV c) (Ary rfl rfl K fun a4 a5 L M=>Av (iV i) (l_v (Ah (v:=vb) f) ?_))));have ah:=Val.len rb;refine l_v (Ci (el:=3) Cdo rfl rb) (l_v (Uy rfl rfl) (l_k M (Bp (t:=decide ((i:Int)>=(b.length:Int))) rfl (fun n=>?_) (fun n=>?_))))
  ·have a1:=lZ3 n;refine qA fun a6 N=>Au (iV 1) (l_k N (Aq (k (rT (iV 1) ?_))));rw[Ahh e (by omega) (by omega) (by omega)]
  have a1:=lZ2 n;refine Al (kk L ?_);refine qA fun a7 O=>l_v (Ah (v:=vb) f) (Av (iV i) ?_);obtain⟨d,C⟩:=Ed (xs:=b) (i:=i) (by omega);refine Arw (Ch i Cdo ty3 rfl rb (q:=(i:Int)) rfl rfl C) fun aq I=>?_;have⟨ai,aj⟩:=At.rng I;refine l_v (Bc ty3 rfl I) (Au (iV d) (Arx rfl rfl O fun a8 R=>Av (iV c) (Av (iV d) (Arv (Cw (Ana (x:=c) (y:=d)) Tryz.func127 ?_)))));refine Au (iV (Iu c d)) (Arx rfl rfl R fun a9 T=>Av (iV (Iu c d)) (l_v (Dg rfl rfl) (l_k T (Bp (t:=(Iu c d) != 0) rfl (fun p=>?_) (fun p=>?_)))))
  ·have D:=Ls p;refine qA fun aa U=>Av (iV (Iu c d)) (Au (iV (Iu c d)) (l_k U (Aq (k (rT (iV (Iu c d)) ?_)))));rw[Anf e B C D]
  have D:=Jh p;refine Al (kk k9 ?_);refine qB (l_v (Br g rfl (z:=(((i+1):Nat):Int)) wrE) (Av (iV ((i+1):Nat)) (Ac ?_)));refine⟨_,?_,(i+1),rfl,rfl,rfl,rfl,E,f,G,F,rfl,(by omega),(by omega),(Eg e (by rw[B,C,Wz.1 D])),trivial⟩;omega
 have q8:=lZ2 w;refine Bx (kk P ?_);refine qD fun ab ac V W=>l_v (Ah (v:=va) E) ?_;have ak:=Val.len ra;refine l_v (Ci (el:=3) Cdo rfl ra) (l_v (Ah (v:=vb) f) ?_);have al:=Val.len rb;refine l_v (Ci (el:=3) Cdo rfl rb) (l_v (Da rfl rfl) (l_k W (Bp (t:=decide ((a.length:Int)<(b.length:Int))) rfl (fun u=>?_) (fun u=>?_))))
 ·have a2:=lZ3 u;refine qA fun ad ZQ=>Au (iV (-1)) (l_k ZQ (Aq (k (rT (iV (-1)) ?_))));rw[Acz e (by omega) (by omega)];first|rw[if_pos (by omega)]|rw[if_neg (by omega)]
 have a2:=lZ2 u;refine Al (kk V ?_);refine qA fun ae a0=>Au (iV 0) (l_k a0 (Aq (k (rT (iV 0) ?_))));rw[Acz e (by omega) (by omega)];first|rw[if_pos (by omega)]|rw[if_neg (by omega)]
end
section
def Apz:ByteArray:=⟨((List.append (List.append [0,1,2,2,3,3,3,3,4,4,4,4,4,4,4,4,5,5,5,5,5,5,5,5,5,5,5,5,5,5,5,5,6,6,6,6,6,6,6,6,6,6,6,6,6,6,6,6,6,6,6,6,6,6,6,6,6,6,6,6,6,6,6,6] [7,7,7,7,7,7,7,7,7,7,7,7,7,7,7,7,7,7,7,7,7,7,7,7,7,7,7,7,7,7,7,7,7,7,7,7,7,7,7,7,7,7,7,7,7,7,7,7,7,7,7,7,7,7,7,7,7,7,7,7,7,7,7,7]) (List.append [8,8,8,8,8,8,8,8,8,8,8,8,8,8,8,8,8,8,8,8,8,8,8,8,8,8,8,8,8,8,8,8,8,8,8,8,8,8,8,8,8,8,8,8,8,8,8,8,8,8,8,8,8,8,8,8,8,8,8,8,8,8,8,8] [8,8,8,8,8,8,8,8,8,8,8,8,8,8,8,8,8,8,8,8,8,8,8,8,8,8,8,8,8,8,8,8,8,8,8,8,8,8,8,8,8,8,8,8,8,8,8,8,8,8,8,8,8,8,8,8,8,8,8,8,8,8,8,8]))).toArray⟩
def Ie(x:Nat):Nat:=if x=0 then 0 else if x<2 then 1 else if x<4 then 2 else if x<8 then 3 else if x<16 then 4 else if x<32 then 5 else if x<64 then 6 else if x<128 then 7 else 8
theorem Aji{x}(h:x<256):Apz[x]?=some (UInt8.ofNat (Ie x)):=by
 have key:(List.range 256).all (fun x=>Apz[x]?==some (UInt8.ofNat (Ie x)))=true:=by decide +kernel
 have:=Te.1 key x (by simpa using h);simpa using this
theorem Sk{x}:Ie x<=8:=by
 unfold Ie;repeat' split
 all_goals omega
theorem Yt{x}:(UInt8.ofNat (Ie x)).toNat=Ie x:=by have:=Sk (x:=x);simp[UInt8.toNat_ofNat'];omega
section
variable{P:Program}{Y:Ro}{e:Env}{ty t t':TypeId}{x y:Operand}
theorem Acf{k k' p z d}(hT:P.underlying t=some d)(hT':P.underlying t'=some (.int k'))(hx:Af e x = .int k p)(hz:k'.wrap p=z):Yld P Y e (.convert t t' x) ty (.int k' z) :=
 Mt (s:=convert t t' (Af e x)) (fun _ _ _ _=>rfl) fun Y' Z _=>by
  rw[hx];show wpS P Y' ((underlying t).bind _) Z _;rw[Ad];refine Az hT ?_;show wpS P Y' ((underlying t').bind _) Z _;rw[Ad];refine Az hT' ?_;subst hz;cases d<;>exact⟨rfl,rfl⟩
theorem Aed{p q:Nat}(hp:p<2^63):Op.intBits .and .u64 p q=pure (.int .u64 ((p &&& q:Nat):Int)):=by
 have c:p &&& q<=p:=Anb;simp only[Op.intBits];congr 2;have:(BitVec.ofInt IntKind.u64.bits p &&& BitVec.ofInt IntKind.u64.bits q).toNat=p &&& q:=by
  show (BitVec.ofInt 64 p &&& BitVec.ofInt 64 q).toNat=_;rw[BitVec.toNat_and,BitVec.toNat_ofInt,BitVec.toNat_ofInt];have a:((p:Int)%(2^64:Nat)).toNat=p:=by omega
  have b:((q:Int)%(2^64:Nat)).toNat=q%2^64:=by omega
  rw[a,b,<-Bcx,<-Bdx,Nat.and_comm p q,Bdx,Bcx,Bdq (by omega)]
 rw[this];show ((p &&& q:Nat):Int)%_=_;simp only[IntKind.bits];omega
theorem Nv{p q:Nat}(hx:Af e x = .int .u64 p)(hy:Af e y = .int .u64 q)(hp:p<2^63):Yld P Y e (.binOp .and t x y t') ty (.int .u64 ((p &&& q:Nat):Int)) :=
 La hx hy Dh (by simp only[binOp];rw[if_neg (by simp)];exact Aed hp)
theorem Ev{p}(h0:0<=p)(h1:p<18446744073709551616):IntKind.u64.wrap p=p:=by show p%_=_;simp only[IntKind.bits];omega
theorem Anq{p}(h0:0<=p)(h1:p<256):IntKind.u8.wrap p=p:=by show p%_=_;simp only[IntKind.bits];omega
end
end
section
def Bv(x:Nat):List Nat:=(List.range (Ie x)).filter (Gw x)
theorem Aps{p:Nat->Bool}{i:Nat}(h:p i=true):Bw ((List.range i).filter p)++[(i:Int)]=Bw ((List.range (i+1)).filter p):=by rw[Bds,Bmp,List.filter_cons,if_pos h];simp[Bw]
theorem Apr{p:Nat->Bool}{i:Nat}(h:p i=false):Bw ((List.range i).filter p)=Bw ((List.range (i+1)).filter p):=by rw[Bds,Bmp,List.filter_cons,if_neg (by simp[h])];simp[Bw]
theorem Alb{p:Nat->Bool}{i:Nat}:(Bw ((List.range i).filter p)).length<=i:=by have:=List.length_filter_le p (List.range i);simpa[Bw]using this
theorem bitM{x i:Nat}:((((x>>>i) &&& 1:Nat):Int)==1)=Gw x i:=rfl
variable{mn:Bool}{X:Frame->List Frame->Ro->Own->Cy->Prop}{Y:Ro}{Z:Own}
theorem Akr{x:Nat}(hx:x<256):CallsH (CX mn X) 129 #[.int .u64 (x:Int)] Y Z (rP Y Z (iV (Ie x:Nat))):=by have hln:=Yt (x:=x);have y:=Sk (x:=x);refine Bu 25 [2] Tryz.func129 rfl fun Q a B=>qA fun j b=>Au (iV 0) (qE b fun k m c d=>Av (.int .u64 (x:Int)) (l_v (Uy rfl rfl) (l_k d (Cg rfl (Ji (by omega)) (Al (kk c ?_))))));refine qD fun n t e f=>Av (.int .u64 (x:Int)) (l_v (Uy rfl rfl) (l_k f (Cg rfl (Ji (by omega)) (Al (kk e ?_)))));refine qD fun u v g h=>Av (.int .u64 (x:Int)) (l_v (Uy rfl rfl) (l_k h (Cg rfl (Ji (by omega)) (Al (kk g ?_)))));refine qA fun w i=>Av (iV 0) (Av (.int .u64 (x:Int)) (l_v (Acf (p:=(x:Int)) (z:=(x:Int)) Tryz.underlying262 Cdy rfl (Anq (by omega) (by omega))) (l_v (Ace x (UInt8.ofNat (Ie x)) Cdn rfl (q:=(x:Int)) rfl rfl (Aji hx)) (l_v (Acf (p:=(((UInt8.ofNat (Ie x)).toNat:Nat):Int)) (z:=(((UInt8.ofNat (Ie x)).toNat:Nat):Int)) Cdy Cec rfl wrR) (l_v (Fp (((0+(UInt8.ofNat (Ie x)).toNat):Nat):Int)) (Au (iV (((0+(UInt8.ofNat (Ie x)).toNat):Nat):Int)) (l_k i (Aq (a ⟨rfl,rfl,eT (iV (((0+(UInt8.ofNat (Ie x)).toNat):Nat):Int)) ?_⟩)))))))));rw[Yt,Qz]
theorem Apo{x:Nat}(hx:x<256):CallsH (CX mn X) 73 #[.int .u64 (x:Int)] Y Z (rP Y Z (iV (Ie x:Nat))):=by refine Bu 8 [2] Tryz.func73 rfl fun Q a h=>qA fun e b=>Au (iV 0) (Asa b fun f c=>Cg rfl rfl (Al (kk c ?_)));refine qA fun g d=>Av (.int .u64 (x:Int)) (Arv (Cw (Akr (x:=x) (by omega)) Tryz.func129 ?_));refine Au (iV ((Ie x):Nat)) (l_k d (Aq (a (rT (iV ((Ie x):Nat)) ?_))));rfl
end
section
def bs(l:List UInt8):ByteArray:=⟨l.toArray⟩
theorem Nn(l:List UInt8):(bs l).size=l.length:=by simp[bs,ByteArray.size]
theorem Bwm{l m}(h:bs l=bs m):l=m:=by have:=congrArg (fun s:ByteArray=>s.data.toList) h;exact this
theorem Aah(l:List UInt8):(bs l).toList=l:=by rw[ByteArray.toList_eq];rfl
theorem Bwj(l m:List UInt8):bs l++bs m=bs (l++m):=by apply ByteArray.ext;show (bs l++bs m).data=_;rw[ByteArray.data_append];simp[bs]
theorem Bwl(l:List UInt8)(i:Nat):(bs l)[i]?=l[i]?:=by
 by_cases h:i<l.length
 ·rw[Ps h,getElem?_pos (bs l) i (by rw[Nn];exact h)];rfl
 ·rw[Sr (by omega),getElem?_neg (bs l) i (by rw[Nn];exact h)]
theorem Akw(l:List UInt8)(i j:Nat):(bs l).extract i j=bs ((l.take j).drop i):=by apply ByteArray.ext;rw[ByteArray.data_extract];simp[bs,List.extract_toArray,List.drop_take]
def Bsg:Nat->Nat->List UInt8
 | 0,n=>[UInt8.ofNat (48+n%10)]
 | k+1,n=>if n<10 then [UInt8.ofNat (48+n)] else Bsg k (n/10)++[UInt8.ofNat (48+n%10)]
def Ox(n:Nat):List UInt8:=Bsg 20 n
theorem App:∀{k n:Nat},n<10^(k+1)->∀j,Bsg (k+j) n=Bsg k n
 | 0,n,h,j=>by
  cases j with
  | zero=>rfl
  | succ j=>show (if n<10 then _ else _)=_;rw[if_pos (by simpa using h)];show [UInt8.ofNat (48+n)]=[UInt8.ofNat (48+n%10)];rw[Bdq (by simpa using h)]
 | k+1,n,h,j=>by
  rw[show k+1+j=(k+j)+1 by omega];show (if n<10 then _ else _)=(if n<10 then _ else _);by_cases h1:n<10
  ·rw[if_pos h1,if_pos h1]
  ·rw[if_neg h1,if_neg h1,App (by rw[Aqr]at h;omega) j]
theorem Bwv{n}(h:n<10):Ox n=[UInt8.ofNat (48+n)]:=by show (if n<10 then _ else _)=_;rw[if_pos h]
theorem Bww{n}(h:10<=n)(hb:n<10^20):Ox n=Ox (n/10)++[UInt8.ofNat (48+n%10)]:=by show (if n<10 then _ else _)=_;rw[if_neg (by omega)];unfold Ox;rw[App (k:=19) (n:=n/10) (by omega) 1]
def Ahl(c:UInt8)(acc:List UInt8):List UInt8->List (List UInt8)
 | []=>[acc]
 | x::r=>if x=c then acc::Ahl c [] r else Ahl c (acc++[x]) r
def Iq(s:List UInt8):List (List UInt8):=Ahl 32 [] s
def Avr(c:UInt8):Bool:=decide (48<=c.toNat)&&decide (c.toNat<=57)
def Azv(l:List UInt8):Nat:=l.foldl (fun n c=>10*n+(c.toNat-48)) 0
def Bnp(s:List UInt8):Bool:=decide (s.length>1)&&s.head?==some 45
def Apf(s:List UInt8):List UInt8:=if Bnp s then s.drop 1 else s
def Agz(s:List UInt8):Bool:=decide (1<=(Apf s).length)&&decide ((Apf s).length<=9)&&(Apf s).all Avr && !((Apf s).head?==some 48 && !(s==[48]))
def Cba(s:List UInt8):Int:=if Bnp s then -(Azv (Apf s):Int) else (Azv (Apf s):Int)
theorem Ahb{d}(h:d<10):(UInt8.ofNat (48+d)).toNat=48+d:=by rw[UInt8.toNat_ofNat'];omega
theorem Bkp{l c}:Azv (l++[c])=10*Azv l+(c.toNat-48):=by unfold Azv;rw[Amn];rfl
structure DigOk(n:Nat)(l:List UInt8):Prop where
 ne:l≠[]
 dig:∀c∈l,Avr c=true
 dec:Azv l=n
 len:∀k,n<10^(k+1)->l.length<=k+1
 head:l.head?=some 48->l=[48]
theorem Bcm{d}(h:d<10):Avr (UInt8.ofNat (48+d))=true:=by unfold Avr;rw[Ahb h];simp;omega
theorem Bwx:∀(n:Nat),n<10^20->DigOk n (Ox n):=by
 intro n;induction n using Nat.strongRecOn with
 | _ n ih =>
  intro hn;by_cases h:n<10
  ·rw[Bwv h];refine⟨by simp,fun c hc=>by rw[Nh.1 hc];exact Bcm h,?_,fun k _=>by simp,fun hh=>?_⟩
   ·show 10*0+((UInt8.ofNat (48+n)).toNat-48)=n;rw[Ahb h];omega
   ·simpa using hh
  ·have i:=ih (n/10) (by omega) (by omega);rw[Bww (by omega) hn];have hm:n%10<10:=by omega
   refine⟨by simp,fun c hc=>?_,?_,fun k hk=>?_,fun hh=>?_⟩
   ·rcases Gv.1 hc with hc|hc
    ·exact i.dig c hc
    ·rw[Nh.1 hc];exact Bcm hm
   ·rw[Bkp,i.dec,Ahb hm];omega
   ·cases k with
    | zero=>exact absurd hk (by simpa using h)
    | succ k=>have:=i.len k (by rw[Aqr]at hk;omega);rw[lZ4];simp only[Gb,Nx];omega
   ·have d:(Ox (n/10)).head?=some 48:=by
     cases hd:Ox (n/10) with
     | nil=>exact absurd hd i.ne
     | cons a l=>rw[hd]at hh;simpa using hh
    have e:=i.head d;have b:=i.dec;rw[e]at b;exact absurd (show (0:Nat)=n/10 from b) (by omega)
end
section
section
variable{P:Program}{Y:Ro}{e:Env}{ty t t':TypeId}{x y:Operand}{v:Value}
theorem Asi{p q}(hx:Af e x = .string (bs p))(hy:Af e y = .string (bs q))(hb:p.length+q.length<4611686018427387904):Yld P Y e (.binOp .add t x y t') ty (.string (bs (p++q))) :=
 La hx hy rfl (by
  show Op.stringOp .add (bs p) (bs q)=_;unfold Op.stringOp;simp only;rw[if_neg (by rw[Nn,Nn];show ¬_>(9223372036854775807:Int);omega),Bwj])
theorem sbH{n h:Nat}{c}(h2:h<=n):Instr.sliceBound (.int .i64 (h:Int)) n c=Sem.pure h:=by show (if 0<=(h:Int)/\(h:Int)<=(n:Nat) then pure (h:Int).toNat else _)=_;rw[if_pos (by omega)];simp;rfl
theorem Bce{α β s a}{f:α->Sem β}(h:s=Sem.pure a):s.bind f=f a:=by subst h;rfl
theorem sb4{n h l x y}(h1:Instr.sliceBound y h .sliceB=Sem.pure l)(h2:Instr.sliceBound x n .sliceAlen=Sem.pure h):Instr.sliceBounds false n n (some y) (some x) none=pure (l,h,n):=by unfold Instr.sliceBounds;simp only[Awr,Aiw,if_false];show (Instr.sliceBound x n .sliceAlen).bind _=_;rw[Bce h2];show (Instr.sliceBound y h .sliceB).bind _=_;rw[Bce h1]
theorem sliceB{n lo hi l h}(hl:(lo=none/\l=0)∨lo=some (.int .i64 (l:Int)))(hh:(hi=none/\h=n)∨hi=some (.int .i64 (h:Int)))(h1:l<=h)(h2:h<=n):Instr.sliceBounds false n n lo hi none=pure (l,h,n):=by
 rcases hh with⟨rfl,rfl⟩|rfl<;>rcases hl with⟨rfl,rfl⟩|rfl
 ·rfl
 ·have e:Instr.sliceBounds false h h (some (.int .i64 (l:Int))) none none=(Instr.sliceBound (.int .i64 (l:Int)) h .sliceB).bind fun l=>Sem.pure (l,h,h):=rfl;rw[e,Bce (sbH h1)];rfl
 ·have e:Instr.sliceBounds false n n none (some (.int .i64 (h:Int))) none=(Instr.sliceBound (.int .i64 (h:Int)) n .sliceAlen).bind fun h=>Sem.pure (0,h,n):=rfl;rw[e,Bce (sbH h2)];rfl
 ·exact sb4 (sbH h1) (sbH h2)
theorem Bjl{p lo hi}{l h:Nat}(hT:P.underlying t=some .string)(hx:Af e x = .string (bs p))(hl:(lo=none/\l=0)∨∃o,lo=some o/\Af e o = .int .i64 (l:Int))(hh:(hi=none/\h=p.length)∨∃o,hi=some o/\Af e o = .int .i64 (h:Int))(h1:l<=h)(h2:h<=p.length):
  Yld P Y e (.slice t x lo hi none) ty (.string (bs ((p.take h).drop l))) :=
 Mt (s:=Instr.sliceAt t (Af e x) (lo.map (Af e)) (hi.map (Af e)) none) (fun _ _ _ _=>rfl) fun Y' Z _=>by
  rw[hx];show wpS P Y' ((underlying t).bind _) Z _;rw[Ad];refine Az hT ?_;show wpS P Y' ((underlying t).bind _) Z _;rw[Ad];refine Az hT ?_;simp only[];show wpS P Y' ((Instr.sliceBounds false (bs p).size (bs p).size (lo.map (Af e)) (hi.map (Af e)) none).bind _) Z _;rw[sliceB (l:=l) (h:=h) (by
   rcases hl with⟨rfl,a⟩|⟨o,rfl,ho⟩
   ·exact .inl ⟨rfl,a⟩
   ·exact .inr (by rw[Aoy,ho])) (by
   rcases hh with⟨rfl,a⟩|⟨o,rfl,ho⟩
   ·exact .inl ⟨rfl,a.trans (Nn p).symm⟩
   ·exact .inr (by rw[Aoy,ho])) h1 (by rw[Nn];exact h2)]
  exact⟨by show Value.string ((bs p).extract l h)=_;rw[Akw],rfl⟩
theorem Aus{p k q}(i:Nat)(c:UInt8)(hT:P.underlying t=some .string)(hx:Af e x = .string (bs p))(hy:Af e y = .int k q)(hq:q=(i:Int))(hc:p[i]?=some c):Yld P Y e (.index t x y) ty (.int .u8 (c.toNat:Int)) :=
 Ace i c hT hx hy hq (by rw[Bwl];exact hc)
theorem Vs{p}(hT:P.underlying t=some .string)(hx:Af e x = .string (bs p)):Yld P Y e (.call ⟨.builtin .len,#[x],#[t]⟩) ty (.int .i64 (p.length:Int)):=Afz hT hx
theorem Cbw{p q}(hx:Af e x = .string (bs p))(hy:Af e y = .string (bs q)):Yld P Y e (.binOp .eql t x y t') ty (.bool (p==q)):=by have:=Ain (P:=P) (Y:=Y) (t:=t) (t':=t') (ty:=ty) hx hy;rw[Aah,Aah]at this;exact this
theorem Cbx{p q}(hx:Af e x = .string (bs p))(hy:Af e y = .string (bs q)):Yld P Y e (.binOp .neq t x y t') ty (.bool (p != q)):=by have:=Cby (P:=P) (Y:=Y) (t:=t) (t':=t') (ty:=ty) hx hy;rw[Aah,Aah]at this;exact this
end
theorem bytesTo{P:Program}{Y:Ro}{Z:Own}{Q:ByteArray->Own->Prop}:∀(l:List UInt8) (s:ByteArray),Q (s++bs l) Z->wpS P Y (forIn (l.map fun c:UInt8=>Value.int .u8 (c.toNat:Int)) s fun c s=>match c with
  | .int .u8 n=>pure (ForInStep.yield (s.push (UInt8.ofNat n.toNat)))
  | _=>do
   stuck "bytesToString: byte expected"
   pure (ForInStep.yield s)) Z Q
 | [],s,h=>by
  have e:s++bs []=s:=by apply ByteArray.ext;rw[ByteArray.data_append];simp[bs]
  rw[e]at h;exact h
 | c::l,s,h=>by
  rw[Ic,Bdr];refine bytesTo l (s.push (UInt8.ofNat ((c.toNat:Nat):Int).toNat)) ?_;have e:s.push (UInt8.ofNat ((c.toNat:Nat):Int).toNat)++bs l=s++bs (c::l):=by
   apply ByteArray.ext;rw[ByteArray.data_append,ByteArray.data_append];show (s.data.push _)++l.toArray=s.data++(c::l).toArray;rw[show UInt8.ofNat ((c.toNat:Nat):Int).toNat=c by rw[Yk];exact UInt8.ofNat_toNat];apply Array.ext';simp
  rw[e];exact h
theorem Aud{Y:Ro}:∀{cs:List Value} {l:List UInt8},Rows Y cs l->cs=l.map fun c:UInt8=>Value.int .u8 (c.toNat:Int)
 | cs,[],h=>h
 | cs,c::l,⟨c1,c2,h1,h2,h3⟩=>by
  rw[h1,Aud h3];rw[show c1=[Value.int .u8 (c.toNat:Int)] from h2];rfl
theorem Bzs{P Y e ty t t' x v l el}(hT:P.underlying t=some (.slice el))(hT':P.underlying t'=some .string)(hE:P.underlying el=some (.int .u8))(hx:Af e x=v)(hv:Val Y v l):Yld P Y e (.convert t t' x) ty (.string (bs l)) :=
 Mt (s:=convert t t' (Af e x)) (fun _ _ _ _=>rfl) fun Y' Z hle=>by
  rw[hx];obtain⟨a,len,cap,f,d,j,m,g⟩:=Cs.1 hv;subst f;show wpS P Y' ((underlying t).bind _) Z _;rw[Ad];refine Az hT ?_;show wpS P Y' ((underlying t').bind _) Z _;rw[Ad];refine Az hT' ?_;show wpS P Y' ((underlying el).bind _) Z _;rw[Ad];refine Az hE ?_;show wpS P Y' (Conv.bytesToString (.slice a len cap)) Z _;have hf:=Uw (P:=P) (Z:=Z) (Y:=Y') (Q:=fun cs Z'=>cs=(l.map fun c:UInt8=>Value.int .u8 (c.toNat:Int)).toArray/\Z'=Z) (hv.mono hle) fun cs hr=>⟨by rw[Aud hr],rfl⟩;cases a with
  | none =>
   have i:l=[]:=by
    cases l with
    | nil=>rfl
    | cons c r=>obtain⟨b,off,h,_⟩:=g 0 c rfl;cases h
   subst i;exact⟨rfl,rfl⟩
  | some a =>
   unfold Conv.bytesToString;simp only;show wpS P Y' ((loadCells a len).bind _) Z _;rw[Ad,<-d];rw[<-d]at hf;rw[show Builtin.firstCells (Dat.k UInt8) l.length (.slice (some a) l.length cap)=loadCells a (l.length*1) from rfl,Aqt]at hf;refine Eu ?_ _ _ hf;rintro cs Z' ⟨rfl,rfl⟩;rw[Bdi];show wpS P Y' (Sem.bind _ _) _ _;rw[Ad];refine bytesTo l ByteArray.empty ?_;have e:ByteArray.empty++bs l=bs l:=by apply ByteArray.ext;rw[ByteArray.data_append];show #[]++_=_;simp
   exact⟨by rw[e],rfl⟩
theorem Bkq{n}(h:n<10^20):(Ox n).length<=20:=(Bwx n h).len 19 h
theorem Cap{p:List UInt8}{i}(h:i<p.length):∃c,p[i]?=some c:=⟨_,Ps h⟩
theorem Bzi{Y l}(h:l.length<2^60):Val Y (.string (bs l)) (bs l):=Jk.2 ⟨rfl,by rw[Nn];exact h⟩
theorem Bqn{Y z}(h0:0<=z)(h1:z<=255):Val Y (.int .u8 z) (UInt8.ofNat z.toNat):=Uq.2 (by
 congr 1;rw[UInt8.toNat_ofNat'];omega)
end
section
theorem Ce:∀{a b:List Nat},Gz (Bw a) (Bw b)<0↔a<b
 | [],[]=>by simp[Bw,Gz]
 | [],y::ys=>by simp[Bw,Gz]
 | x::xs,[]=>by simp[Bw,Gz]
 | x::xs,y::ys=>by
  have ih:=@Ce xs ys;show (if Iu (Int.ofNat x) (Int.ofNat y)≠0 then Iu (Int.ofNat x) (Int.ofNat y) else Gz (Bw xs) (Bw ys))<0↔_;rw[List.cons_lt_cons_iff];by_cases hxy:x=y
  ·subst hxy;rw[if_neg (by simp[Wz]),ih];simp
  ·have hne:Iu (Int.ofNat x) (Int.ofNat y)≠0:=fun h=>hxy (Int.ofNat.inj (Wz.1 h));rw[if_pos hne];unfold Iu;split
   ·rename_i h;simp at h;simp[h]
   ·rename_i h;simp at h;rw[if_pos (by simp;omega)];simp;omega
end
section
theorem Alw{n k:Nat}{f:Nat->Int}(h:∀i,i<n->0<=f i)(hk:k<n):f k<=Df n f:=by
 induction n with
 | zero=>omega
 | succ n ih =>
  simp only[Df];by_cases e:k=n
  ·subst e;have:=Sa (n:=k) (f:=f) fun i hi=>h i (by omega);omega
  ·have:=ih (fun i hi=>h i (by omega)) (by omega);have:=h n (by omega);omega
section
variable{sl:Nat->Nat->Bool}{cap:Nat->Int}{sale o h:Nat}{grams n:Int}{xs xs':List Int}{tr trk tr':List Bool}
end
end
section
open Go Go.Conc
section
variable{P:Program}{c:Nat}{fr fr':Frame}{cs cs':List Frame}{Y:Ro}{Z:Own}{vs:List Value}
theorem Fa(h:∀W,stepG P false (Conc.G fr cs) W = .go (Conc.G fr' cs') W #[])(hk:SendI P c vs fr' cs' Y Z):SendI P c vs fr cs Y Z :=
 .step (fun a b c=>a=fr'/\b=cs'/\c=Z) (fun W hs=>⟨fr',cs',W,#[],Z,h W,.refl hs,by simp,rfl,rfl,rfl⟩) (by rintro _ _ _ ⟨rfl,rfl,rfl⟩;exact hk)
end
abbrev Aco:=List Value->Hu
section
variable{P:Program}{c:Nat}{b:FB}{n:Nat}{Q:Aco}{vs:List Value}{e:Env}{ds:List Deferred}{Y Y':Ro}{Z Z':Own}
end
end
section
open Go Go.Conc
def Gf(P:Program):Frame:={(default:Frame) with fn:=P.funcs.size,defers:=[],mode:=.panicking [goexitEntry]}
theorem Abf{P f fn args}(hf:P.funcs[f]?=some fn)(hn:(fn.name == "runtime.NumGoroutine")=false)(hb:fn.body.isNone=false)(W:World):
  (invoke (.fn (.func f) #[]) args).runT P W #[]=(.ok (.enter f args) W,#[]):=by show (callFunc f (args ++ #[])).runT P W #[]=_;rw[Aea];show (program.bind _:Sem Next).runT P W #[]=_;rw[Sem.runT_bind'];show Sem.runT P (match P.funcs[f]? with|none=>_|some fn=>_) W #[]=_;rw[hf];simp only[hn,hb];rfl
theorem Abt{P c Y vs f fn args}(hf:P.funcs[f]?=some fn)(hn:(fn.name == "runtime.NumGoroutine")=false)(hb:fn.body.isNone=false)(h:SendI P c vs (Frame.enter P f args .deferred) [Gf P] Y []):SendI P c vs (Gg P {target:=.fn (.func f) #[],args:=args}) [] Y []:=by refine Fa (fun W=>?_) h;have hr:=Abf (args:=args) hf hn hb W;simp[Conc.G,stepG,Gg,unwind,callDeferred,-Sem.runT_eq,hr,GStep.after,seen,Gf]
def Lj(c:Nat)(tys:Array TypeId)(ty:TypeId)(cn:Array Bool):Deferred:={target:=.builtin .close tys ty cn,args:=#[.chan (some c)]}
theorem Aeo{P c tys ty cn W s r tm}(h:W.heap[c]?=some (.chan 0 #[] false s r tm)):
  (invoke (.builtin .close tys ty cn) #[.chan (some c)]).runT P W #[]=(.ok (.value (.tuple #[])) (W.setChan c 0 #[] true s r tm),#[⟨.obj c,false,true⟩,⟨.obj c,true,true⟩]):=by
 have b:(Builtin.close_ tys ty #[.chan (some c)]).runT P W #[]=(.ok (.tuple #[]) (W.setChan c 0 #[] true s r tm),#[⟨.obj c,false,true⟩,⟨.obj c,true,true⟩]):=by
  show Sem.runT P (Sem.getObj c fun o=>Sem.bind (Sem.pure o) _) W #[]=_;rw[Sem.runT];simp only[h];show Sem.runT P (Sem.setObj c (.chan 0 #[] true s r tm) (Sem.pure (Value.tuple #[]))) W _=_;rw[Sem.runT];simp only[h];rfl
 show ((Builtin.close_ tys ty #[.chan (some c)]).bind fun v=>Sem.pure (Next.value v)).runT P W #[]=_;rw[Sem.runT_bind',b];rfl
theorem Aky{P c b tm todo fn tys ty cn}(hf:P.funcs[b.fn]?=some fn)(hk:b.kind = .deferred)(hr:fn.results = #[]):
  Acm P c {Fr b tm [Lj c tys ty cn] todo with mode:=.returning} [Gf P]:=by
 refine⟨rfl,2,Conc.G {Fr b tm [] todo with mode:=.returning} [Gf P],?_,fun W s r tm' hc=>?_⟩
 ·refine .inr ⟨rfl,Conc.G (Gf P) [],fun w=>?_,.inr ⟨rfl,{Conc.G (Gf P) [] with status:=.finished},fun w=>?_,(rfl:GoStatus.finished=GoStatus.finished)⟩⟩
  ·have hrs:(results fn tm).runT P w #[]=(.ok (.tuple #[]) w,#[]):=by
    unfold results;rw[hr,Bau];rfl
   simp[Conc.G,stepG,Fr,unwind,hf,-Sem.runT_eq,hrs,doReturn,hk,GStep.after,Gf,goexitEntry,seen]
  ·have hc:Frame.catches P (Gf P)=false:=by
    unfold Frame.catches Gf;cases P.funcs[P.funcs.size]?<;>rfl
   simp only[Gf,goexitEntry]at hc;simp[Conc.G,stepG,Gf,unwind,goexitEntry,hc]
 ·have a:=Aeo (P:=P) (tys:=tys) (ty:=ty) (cn:=cn) hc;simp[Conc.G,stepG,Fr,unwind,Lj,callDeferred,-Sem.runT_eq,a,GStep.after,seen]
section
variable{P:Program}{c:Nat}{b:FB}{n:Nat}{l₀ rest:List Oper}{Q:List Value->Env->List Deferred->Ro->Own->Prop}{vs:List Value}{e:Env}{ds:List Deferred}{Y:Ro}{Z:Own}
end
section
variable{C:Ctx}{e:Env}{ds:List Deferred}{Y:Ro}{Z:Own}{K:Value->List Deferred->Ro->Own->Prop}{dd:Option Tmp}
theorem Xn{ty pos af g x tys c t}(hxt:x = .tmp t)(hx:Af e x = .chan (some c))(h:K undef (Lj c tys ty #[false]::ds) Y Z):
  wpS C.P Y (execOp (Af e) ⟨dd,.defer ⟨.builtin .close,#[x],tys⟩,ty,pos,af,g⟩) Z (NextH C K none ds Y):=by
 subst hxt;have a:execOp (Af e) ⟨dd,.defer ⟨.builtin .close,#[.tmp t],tys⟩,ty,pos,af,g⟩=Sem.pure (Next.defer {target:=.builtin .close tys ty #[false],args:=#[Af e (.tmp t)]}):=by
  show ((resolve (Af e) ⟨.builtin .close,#[.tmp t],tys⟩ ty).bind fun d=>Sem.pure (Next.defer d))=_;simp[resolve,Sem.bind,pure]
 rw[a,hx];exact⟨rfl,h⟩
end
end
section
def leO(Y9:Ro)(A:Own):Ro->Own->Prop:=fun Y' Z'=>Ro.le Y9 Y'/\∀p∈A,p∈Z'
def Wy(P:Program)(Y9:Ro)(A:Own)(e:Env)(op:Op)(ty:TypeId)(v:Value):Prop :=
 ∀Y' Z d pos af g,leO Y9 A Y' Z->wpS P Y' (execOp (Af e) ⟨d,op,ty,pos,af,g⟩) Z (fun nx Z'=>nx = .value v/\Z'=Z)
theorem Yld.o{P Y9 A e op ty v}(h:Yld P Y9 e op ty v):Wy P Y9 A e op ty v:=fun Y' Z d pos af g hS=>h Y' Z d pos af g hS.1
theorem Aje{Z:Own}:∀p∈([]:Own),p∈Z:=fun p hp=>by cases hp
theorem Ajb{A Z:Own}{x:Nat×Res}(h:∀p∈A,p∈Z):∀p∈x::A,p∈x::Z:=fun p hp=>by
 rcases lZ8.1 hp with rfl|hp
 ·exact Vb ..
 ·exact lZ0 _ (h p hp)
theorem Ajc{A Z gr:Own}(h:∀p∈A,p∈Z):∀p∈gr++A,p∈gr++Z:=fun p hp=>by
 rcases Gv.1 hp with hp|hp
 ·exact Iz _ hp
 ·exact lZ5 _ (h p hp)
theorem Aja{A Z:Own}{x}(h:∀p∈A,p∈Z):∀p∈A,p∈x::Z:=fun p hp=>lZ0 _ (h p hp)
theorem Ajd{A Z gr:Own}(h:∀p∈A,p∈Z):∀p∈A,p∈gr++Z:=fun p hp=>lZ5 _ (h p hp)
theorem sB{A Z:Own}(h:∀p∈A,p∈Z:=by repeat first|exact Aje|refine Ajb ?_|refine Ajc ?_|refine Aja ?_|refine Ajd ?_):∀p∈A,p∈Z:=h
theorem sC{Y:Ro}{A Z:Own}(h:∀p∈A,p∈Z:=by repeat first|exact Aje|refine Ajb ?_|refine Ajc ?_|refine Aja ?_|refine Ajd ?_):leO Y A Y Z:=⟨Cfs,h⟩
section
variable{C:Ctx}{b:FB}{n:Nat}{l₀ rest:List Oper}{Q:Env->List Deferred->Ro->Own->Prop}{e:Env}{ds:List Deferred}{Y Y9 Y8:Ro}{Z A:Own}{pz:List Nat}{fuel:Nat}
variable{d i:Nat}{op:Op}{ty:TypeId}{pos:String}{af:Array Edge}{g:Option (Nat×Bool)}{v:Value}{li:List Bool}
theorem Ane{V:Ql}(hS:leO Y9 A Y Z)(hw:Bz l₀.toArray ⟨some d,op,ty,pos,af,g⟩ e=true)(hy:Wy C.P Y9 A e op ty v)(h:Ee C V b n l₀ rest Q (upd e d v) ds Y Z):Ee C V b n l₀ (⟨some d,op,ty,pos,af,g⟩::rest) Q e ds Y Z :=
 Add hw (Eu (by rintro nx Z' ⟨rfl,rfl⟩;exact h) _ _ (hy Y Z _ _ _ _ hS))
theorem Ma{V id Q}(A:Own)(pz:List Nat)(hm:C.P.follows .mixedOrders=true)(hs:Nm n l₀=true)(hk:b.kind = .normal)(h:El C b l₀.toArray (fun e ds Y Z=>Q .normal e ds Y Z) pz (leO Y A) l₀.length (List.replicate l₀.length false).toArray e ds Y Z):WpP C V b n (.region id l₀.toArray true) Q e ds Y Z :=
 Vk pz (leO Y A) hm (Ih hs) (by rw[hk];simp) (by simpa using h)
theorem Ow(hr:Dl l₀ li=[])(h:Q e ds Y Z):El C b l₀.toArray Q pz (leO Y9 A) fuel li.toArray e ds Y Z:=Aeb (by rw[Hh];exact hr) h fuel
theorem Abl(li':List Bool)(hli:li.set i true=li')(ht:Py l₀ li pz i=true)(hi:l₀[i]?=some ⟨some d,op,ty,pos,af,g⟩)
  (hS:leO Y9 A Y Z) (hw:Bz l₀.toArray ⟨some d,op,ty,pos,af,g⟩ e=true) (hy:Wy C.P Y9 A e op ty v) (h:El C b l₀.toArray Q pz (leO Y9 A) fuel li'.toArray (upd e d v) ds Y Z) :
  El C b l₀.toArray Q pz (leO Y9 A) (fuel+1) li.toArray e ds Y Z:=by obtain⟨a,c,f,j⟩:=Wg ht;refine Vm (by rw[Jw];exact hi) a c f j (.inl ⟨hw,fun Y' Z' hS'=>hy Y' Z' _ _ _ _ hS'⟩) hS ?_;rw[Mo hli];exact h
theorem Cf  (i:Nat) (li':List Bool) (hi:l₀[i]?=some ⟨some d,op,ty,pos,af,g⟩) (hS:leO Y9 A Y Z) (hw:Bz l₀.toArray ⟨some d,op,ty,pos,af,g⟩ e=true) (hy:Wy C.P Y9 A e op ty v) (h:El C b l₀.toArray Q pz (leO Y9 A) fuel li'.toArray (upd e d v) ds Y Z) (hli:li.set i true=li':=by rfl) (ht:Py l₀ li pz i=true:=by kernel_rfl) :
  El C b l₀.toArray Q pz (leO Y9 A) (fuel+1) li.toArray e ds Y Z:=Abl (i:=i) li' hli ht hi hS hw hy h
theorem Bya{F:Value->Prop}(li':List Bool)(hli:li.set i true=li')(ht:Py l₀ li pz i=true)(hi:l₀[i]?=some ⟨some d,op,ty,pos,af,g⟩)
  (hS:leO Y9 A Y Z) (hw:Bz l₀.toArray ⟨some d,op,ty,pos,af,g⟩ e=true) (hy:∃v,F v/\Wy C.P Y9 A e op ty v) (h:∀v,F v->El C b l₀.toArray Q pz (leO Y9 A) fuel li'.toArray (upd e d v) ds Y Z) :
  El C b l₀.toArray Q pz (leO Y9 A) (fuel+1) li.toArray e ds Y Z:=let ⟨v,h1,h2⟩:=hy;Abl li' hli ht hi hS hw h2 (h v h1)
theorem Bep{F:Value->Prop}(i:Nat)(li':List Bool)(hi:l₀[i]?=some ⟨some d,op,ty,pos,af,g⟩)(hS:leO Y9 A Y Z)(hw:Bz l₀.toArray ⟨some d,op,ty,pos,af,g⟩ e=true)(hy:∃v,F v/\Wy C.P Y9 A e op ty v)(h:∀v,F v->El C b l₀.toArray Q pz (leO Y9 A) fuel li'.toArray (upd e d v) ds Y Z)(hli:li.set i true=li':=by rfl)(ht:Py l₀ li pz i=true:=by kernel_rfl) :
  El C b l₀.toArray Q pz (leO Y9 A) (fuel+1) li.toArray e ds Y Z:=Bya (i:=i) li' hli ht hi hS hw hy h
theorem Bxz(li':List Bool)(hli:li.set i true=li')(ht:Py l₀ li pz i=true)(hi:l₀[i]?=some ⟨some d,op,ty,pos,af,g⟩)
  (hS:leO Y9 A Y Z) (hw:Bz l₀.toArray ⟨some d,op,ty,pos,af,g⟩ e=false) (h:El C b l₀.toArray Q pz (leO Y9 A) fuel li'.toArray (upd e d undef) ds Y Z) :
  El C b l₀.toArray Q pz (leO Y9 A) (fuel+1) li.toArray e ds Y Z:=by obtain⟨a,c,f,j⟩:=Wg ht;refine Vm (by rw[Jw];exact hi) a c f j (.inr ⟨hw,rfl⟩) hS ?_;rw[Mo hli];exact h
theorem Hb  (i:Nat) (li':List Bool) (hi:l₀[i]?=some ⟨some d,op,ty,pos,af,g⟩) (hS:leO Y9 A Y Z) (hw:Bz l₀.toArray ⟨some d,op,ty,pos,af,g⟩ e=false) (h:El C b l₀.toArray Q pz (leO Y9 A) fuel li'.toArray (upd e d undef) ds Y Z) (hli:li.set i true=li':=by rfl) (ht:Py l₀ li pz i=true:=by kernel_rfl) :
  El C b l₀.toArray Q pz (leO Y9 A) (fuel+1) li.toArray e ds Y Z:=Bxz (i:=i) li' hli ht hi hS hw h
theorem Btn{Y' Z'}(hg:Ghost Y Z Y' Z')(hS:leO Y9 A Y Z->leO Y9 A Y' Z')(h:El C b l₀.toArray Q pz (leO Y9 A) (fuel+1) li.toArray e ds Y' Z'):El C b l₀.toArray Q pz (leO Y9 A) (fuel+1) li.toArray e ds Y Z:=Aar hg hS h
theorem Boc(li':List Bool)(hli:li.set i true=li')(hr:Dl l₀ li=[i])(hi:l₀[i]?=some ⟨some d,op,ty,pos,af,g⟩)(hw:Bz l₀.toArray ⟨some d,op,ty,pos,af,g⟩ e=true)
  (h:wpS C.P Y (execOp (Af e) ⟨some d,op,ty,pos,af,g⟩) Z (NextH C (fun v ds' Y' Z'=>leO Y9 A Y' Z'/\El C b l₀.toArray Q pz (leO Y9 A) fuel li'.toArray (upd e d v) ds' Y' Z') b.round ds Y)) :
  El C b l₀.toArray Q pz (leO Y9 A) (fuel+1) li.toArray e ds Y Z:=by refine Mz ((Hh _ _).trans hr) (by simp) fun j hj=>?_;rw[Nh]at hj;subst hj;unfold OpH;simp only[Jw,hi,Mo hli];rw[if_pos hw];exact Eu (fun nx Z' hn=>hn.mono fun v ds Y Z hh=>⟨fun _=>hh.1,hh.2⟩) _ _ h
theorem Aha  (i:Nat) (li':List Bool) (hi:l₀[i]?=some ⟨some d,op,ty,pos,af,g⟩) (hw:Bz l₀.toArray ⟨some d,op,ty,pos,af,g⟩ e=true) (h:wpS C.P Y (execOp (Af e) ⟨some d,op,ty,pos,af,g⟩) Z (NextH C (fun v ds' Y' Z'=>leO Y9 A Y' Z'/\El C b l₀.toArray Q pz (leO Y9 A) fuel li'.toArray (upd e d v) ds' Y' Z') b.round ds Y)) (hli:li.set i true=li':=by rfl) (hr:Dl l₀ li=[i]:=by kernel_rfl) :
  El C b l₀.toArray Q pz (leO Y9 A) (fuel+1) li.toArray e ds Y Z:=Boc (i:=i) li' hli hr hi hw h
theorem Ben(li':List Bool)(hli:li.set i true=li')(hr:Dl l₀ li=[i])(hl:Pg l₀.toArray pz i=true)(hi:l₀[i]?=some ⟨none,op,ty,pos,af,g⟩)(hw:Bz l₀.toArray ⟨none,op,ty,pos,af,g⟩ e=true)
  (h:wpS C.P Y (execOp (Af e) ⟨none,op,ty,pos,af,g⟩) Z (NextH C (fun _ ds' Y' Z'=>El C b l₀.toArray Q pz (leO Y9 A) fuel li'.toArray e ds' Y' Z') b.round ds Y)) :
  El C b l₀.toArray Q pz (leO Y9 A) (fuel+1) li.toArray e ds Y Z:=by refine Mz ((Hh _ _).trans hr) (by simp) fun j hj=>?_;rw[Nh]at hj;subst hj;unfold OpH;simp only[Jw,hi,Mo hli];rw[if_pos hw];exact Eu (fun nx Z' hn=>hn.mono fun v ds Y Z hh=>⟨fun h=>(by rw[hl]at h;cases h),hh⟩) _ _ h
theorem Wm  (i:Nat) (li':List Bool) (hi:l₀[i]?=some ⟨none,op,ty,pos,af,g⟩) (hw:Bz l₀.toArray ⟨none,op,ty,pos,af,g⟩ e=true) (h:wpS C.P Y (execOp (Af e) ⟨none,op,ty,pos,af,g⟩) Z (NextH C (fun _ ds' Y' Z'=>El C b l₀.toArray Q pz (leO Y9 A) fuel li'.toArray e ds' Y' Z') b.round ds Y)) (hli:li.set i true=li':=by rfl) (hr:Dl l₀ li=[i]:=by kernel_rfl) (hl:Pg l₀.toArray pz i=true:=by kernel_rfl) :
  El C b l₀.toArray Q pz (leO Y9 A) (fuel+1) li.toArray e ds Y Z:=Ben (i:=i) li' hli hr hl hi hw h
theorem Bbf(li':List Bool)(hli:li.set i true=li')(hr:Dl l₀ li=[i])(hi:l₀[i]?=some ⟨some d,op,ty,pos,af,g⟩)(hS:leO Y9 A Y Z)(hw:Bz l₀.toArray ⟨some d,op,ty,pos,af,g⟩ e=true)(hy:Wy C.P Y8 A e op ty v)(hS1:leO Y8 A Y Z)
  (h:El C b l₀.toArray Q pz (leO Y9 A) fuel li'.toArray (upd e d v) ds Y Z):El C b l₀.toArray Q pz (leO Y9 A) (fuel+1) li.toArray e ds Y Z :=
 Boc li' hli hr hi hw (Eu (by rintro nx Z' ⟨rfl,rfl⟩;exact⟨hS,h⟩) _ _ (hy Y Z _ _ _ _ hS1))
theorem Cj  (i:Nat) (li':List Bool) (hi:l₀[i]?=some ⟨some d,op,ty,pos,af,g⟩) (hS:leO Y9 A Y Z) (hw:Bz l₀.toArray ⟨some d,op,ty,pos,af,g⟩ e=true) (hy:Wy C.P Y8 A e op ty v) (hS1:leO Y8 A Y Z) (h:El C b l₀.toArray Q pz (leO Y9 A) fuel li'.toArray (upd e d v) ds Y Z) (hli:li.set i true=li':=by rfl) (hr:Dl l₀ li=[i]:=by kernel_rfl):El C b l₀.toArray Q pz (leO Y9 A) (fuel+1) li.toArray e ds Y Z:=Bbf (i:=i) li' hli hr hi hS hw hy hS1 h
theorem Btp{F:Value->Prop}(li':List Bool)(hli:li.set i true=li')(hr:Dl l₀ li=[i])(hi:l₀[i]?=some ⟨some d,op,ty,pos,af,g⟩)(hS:leO Y9 A Y Z)(hw:Bz l₀.toArray ⟨some d,op,ty,pos,af,g⟩ e=true)(hy:∃v,F v/\Wy C.P Y8 A e op ty v)(hS1:leO Y8 A Y Z)
  (h:∀v,F v->El C b l₀.toArray Q pz (leO Y9 A) fuel li'.toArray (upd e d v) ds Y Z):El C b l₀.toArray Q pz (leO Y9 A) (fuel+1) li.toArray e ds Y Z:=let ⟨v,h1,h2⟩:=hy;Bbf li' hli hr hi hS hw h2 hS1 (h v h1)
theorem Ael{F:Value->Prop}(i:Nat)(li':List Bool)(hi:l₀[i]?=some ⟨some d,op,ty,pos,af,g⟩)(hS:leO Y9 A Y Z)(hw:Bz l₀.toArray ⟨some d,op,ty,pos,af,g⟩ e=true)(hy:∃v,F v/\Wy C.P Y8 A e op ty v)(hS1:leO Y8 A Y Z)(h:∀v,F v->El C b l₀.toArray Q pz (leO Y9 A) fuel li'.toArray (upd e d v) ds Y Z)(hli:li.set i true=li':=by rfl)(hr:Dl l₀ li=[i]:=by kernel_rfl):El C b l₀.toArray Q pz (leO Y9 A) (fuel+1) li.toArray e ds Y Z:=Btp (i:=i) li' hli hr hi hS hw hy hS1 h
theorem Beo(t:Bool)(h1:t=true->El C b l₀.toArray Q pz (leO Y9 A) fuel li.toArray e ds Y Z)(h0:t=false->El C b l₀.toArray Q pz (leO Y9 A) fuel li.toArray e ds Y Z):El C b l₀.toArray Q pz (leO Y9 A) fuel li.toArray e ds Y Z:=by
 cases t
 ·exact h0 rfl
 ·exact h1 rfl
end
section
variable{P:Program}{Y9:Ro}{A:Own}{e:Env}{ty t t':TypeId}{x:Operand}{v:Value}
theorem Em{r off}{c:List Value}{fz}(hT:∃d,P.underlying t=some d/\Qv d=false)(hx:Af e x = .pointer (some ⟨r,off,none⟩))(hm:(r,Res.obj (.cells c.toArray t' fz))∈A)(hc:c[off]?=some v):Wy P Y9 A e (.load t x) ty v:=fun Y' Z d pos af g hS=>by
 show wpS P Y' ((Instr.loadAt t (Af e x)).bind fun v=>Sem.pure (Next.value v)) Z _;rw[Ad,hx];show wpS P Y' (loadVar t ⟨r,off,none⟩) Z _;show wpS P Y' ((isAgg t).bind _) Z _;rw[Ad];refine Hi hT ?_;exact⟨rfl,rfl,_,v,.inr (hS.2 _ hm),by simpa[Gy]using hc,rfl,rfl⟩
theorem Bfl{α β}[Dat α][Dat β]{o off i get xs z gr el}(hf:Fld α β o get)(ha:Dat.agg β=false)(hG:Grow Y9 el v xs gr)(hsub:∀p∈gr,p∈A)(hi:xs[i]?=some z)(hT:∃d,P.underlying t=some d/\Qv d=false)(hx:Af e x = .pointer (some ⟨Ahx v,off,none⟩))(ho:off=i*Dat.k α+o):∃w,Val Y9 w (get z)/\Wy P Y9 A e (.load t x) ty w:=by
 have hil:i<xs.length:=(lZ1.1 hi).1;rcases hG.2.2 with⟨_,a⟩|⟨r,cap,cs,rs,gb,g,h,hr,hl,hc⟩
 ·rw[a]at hil;simp at hil
 ·subst g h;obtain⟨c,y,j,a⟩:=hr.get hi;obtain⟨pre,cs',B,m,n,b⟩:=hf.at_ _ _ _ a;have q:cs'.length=1:=(Dat.len b).trans (Dat.one ha)
  match cs',q with
  | [w],_ =>
   refine⟨w,⟨[w],b,by unfold Vu;rw[ha];rfl⟩,Em hT hx (hsub _ mC) ?_⟩;have u:cs.drop off=[w]++(B++y):=by rw[ho,<-Aoz,j,m,<-n,lZ9,Bdu,lZ9]
   have f:cs[off]?=some w:=by
    have:=congrArg (·[0]?) u;simpa using this
   rw[Aiv (lZ1.1 f).1,f]
end
section
variable{P:Program}{Y9:Ro}{A:Own}{e:Env}{ty t t':TypeId}{x y:Operand}{v w:Value}{xs:List Sale}{i:Nat}{gr:Own}
end
section
variable{C:Ctx}{e:Env}{ds:List Deferred}{Y:Ro}{Z:Own}{K:Value->List Deferred->Ro->Own->Prop}{rd:Option Nat}{dd:Option Tmp}
variable{ty:TypeId}{pos:String}{af:Array Edge}{g:Option (Nat×Bool)}{x y:Operand}{v w w':Value}{t t':TypeId}{xs:List Sale}{i:Nat}{gr:Own}
end
theorem Aho{P Y9 A e op ty}{F:Value->Prop}(h:∃v,F v/\Yld P Y9 e op ty v):∃v,F v/\Wy P Y9 A e op ty v:=let ⟨v,h1,h2⟩:=h;⟨v,h1,h2.o⟩
theorem Xx{C b}{l₀:List Oper}{Q e ds Y Y9 Z Z' A pz fuel}{li:List Bool}(hp:Z.Perm Z')(h:El C b l₀.toArray Q pz (leO Y9 A) (fuel+1) li.toArray e ds Y Z'):El C b l₀.toArray Q pz (leO Y9 A) (fuel+1) li.toArray e ds Y Z :=
 Btn (Cfr hp) (fun hS=>⟨hS.1,fun p hm=>hp.mem_iff.1 (hS.2 p hm)⟩) h
theorem Bln{α:Type}[Dat α]{Y:Ro}{el:TypeId}{v:Value}{xs:List α}{gr:Own}{i:Nat}{z:α}(hG:Grow Y el v xs gr)(hi:xs[i]?=some z):∃cs,Dat.rep Y cs z:=by
 rcases hG.2.2 with⟨_,a⟩|⟨r,cap,cs,rs,gb,b,d,hr,_⟩
 ·subst a;simp at hi
 ·obtain⟨c,e,_,a⟩:=hr.get hi;exact⟨c,a⟩
theorem Ny{Y el v xs gr}{i:Nat}{z}(hG:Grow Y el v xs gr)(hi:xs[i]?=some z):I64 z:=let ⟨_,h⟩:=Bln hG hi;h.2
section
variable{P:Program}{Y9 Y:Ro}{A:Own}{e:Env}{ty t t':TypeId}{x y:Operand}{v:Value}
theorem Oj{off i xs z gr el}(hG:Grow Y9 el v xs gr)(hsub:∀p∈gr,p∈A)(hi:xs[i]?=some z)(hT:∃d,P.underlying t=some d/\Qv d=false)(hx:Af e x = .pointer (some ⟨Ahx v,off,none⟩))(ho:off=i*Dat.k Int):Wy P Y9 A e (.load t x) ty (.int .i64 z):=by obtain⟨w,a,b⟩:=Bfl (ty:=ty) Fld.self rfl hG hsub hi hT hx (o:=0) (by rw[ho];rfl);obtain⟨rfl,_⟩:=Cv.1 a;exact b
end
end
section
open Go Go.Conc
def Agk:Nat->List (List Bool)
 | 0=>[[]]
 | k+1=>(Agk k).flatMap fun l=>[true::l,false::l]
theorem Yu:∀(l:List Bool),l∈Agk l.length
 | []=>by simp[Agk]
 | b::l=>by
  rw[Gb,Agk,Bmw];exact⟨l,Yu l,by cases b<;>simp⟩
def Mh(ops:List Oper)(l:List Bool):Bool:=(List.range ops.length).all fun i=>!l.getD i false||(match ops[i]? with|some o=>o.after.all (fun e=>!Region.binds .any e||l.getD e.on false)|none=>true)
def Amp(ops' ops:List Oper):Bool:=(Agk ops'.length).all fun l=>!Mh ops' l||(decide (Dl ops (l++[false])=if Dl ops' l=[] then [ops'.length] else Dl ops' l)&&(decide (Dl ops' l≠[])||decide (Dl ops (l++[true])=[]))&&(Dl ops' l).all fun i=>Mh ops' (l.set i true))
def Adh(l:List Oper):Bool:=l.all fun o=>o.guard.isNone
section
variable{C:Ctx}{b:FB}{n:Nat}{l':List Oper}{oL:Oper}{Q Q':Env->List Deferred->Ro->Own->Prop}{pz:List Nat}{S:Ro->Own->Prop}
theorem Aap{V:Ql}(hs:Fu n (l'++[oL]).toArray=true)(hk:b.kind ≠ .early)(hg:Adh l'=true)(hc:Amp l' (l'++[oL])=true)(hQ:∀e ds Y Z,Q' e ds Y Z->Va C V b n (l'++[oL]).toArray [l'.length] Q e ds Y Z) :
  ∀(fuel t:Nat) (l:List Bool) (e:Env) (ds:List Deferred) (Y:Ro) (Z:Own),l.length=l'.length->Mh l' l=true->El C b l'.toArray Q' pz S fuel l.toArray e ds Y Z ->
  Va C V b n (l'++[oL]).toArray (Region.linearise.go .any (l'++[oL]).toArray (fuel+1) t (l++[false]).toArray []) Q e ds Y Z:=by
 have f:∀l:List Bool,l.length=l'.length->Mh l' l=true->Dl (l'++[oL]) (l++[false])=(if Dl l' l=[] then [l'.length] else Dl l' l)/\(Dl l' l=[]->Dl (l'++[oL]) (l++[true])=[])/\∀i∈Dl l' l,Mh l' (l.set i true)=true:=fun l hl hcl=>by
  have a:=Te.1 hc l (hl ▸ Yu l);rw[hcl]at a;simp only[Bool.not_true,Bool.false_or,Pc,Awv,decide_eq_true_eq,Te]at a;exact⟨a.1.1,fun h=>a.1.2.resolve_left fun h'=>h' h,a.2⟩
 have rd:∀(l:List Oper) (li:List Bool),Region.ready .any l.toArray li.toArray=Dl l li:=Hh;have fin:∀(fuel t:Nat) (l:List Bool) (e:Env) (ds:List Deferred) (Y:Ro) (Z:Own),l.length=l'.length->Mh l' l=true->Dl l' l=[]->Q' e ds Y Z ->
   Va C V b n (l'++[oL]).toArray (Region.linearise.go .any (l'++[oL]).toArray (fuel+1) t (l++[false]).toArray []) Q e ds Y Z:=by
  intro fuel t l e ds Y Z hl hcl hr hq;obtain⟨a,d,_⟩:=f l hl hcl;rw[if_pos hr]at a;have g:Region.linearise.go .any (l'++[oL]).toArray (fuel+1) t (l++[false]).toArray []=[l'.length]:=by
   simp only[Region.linearise.go]
   change (match (Region.ready .any (l'++[oL]).toArray (l++[false]).toArray)[t%(Region.ready .any (l'++[oL]).toArray (l++[false]).toArray).length]? with
    | some i=>Region.linearise.go .any (l'++[oL]).toArray fuel (t/(Region.ready .any (l'++[oL]).toArray (l++[false]).toArray).length) ((l++[false]).toArray.setIfInBounds i true) [i]
    | none=>[].reverse)=_
   rw[rd,a];simp only[Xo,Nat.mod_one,Bhe];rw[linearise_go_acc];have j:(l++[false]).toArray.setIfInBounds l'.length true=(l++[true]).toArray:=by
    rw[<-hl];simp
   rw[j];cases fuel with
   | zero=>simp[Region.linearise.go]
   | succ fuel =>
    simp only[Region.linearise.go];have m:Region.ready .any (l'++[oL]).toArray (l++[true]).toArray=[]:=(rd _ _).trans (d hr)
    change [l'.length].reverse++(match (Region.ready .any (l'++[oL]).toArray (l++[true]).toArray)[(t/1)%(Region.ready .any (l'++[oL]).toArray (l++[true]).toArray).length]? with
     | some i=>Region.linearise.go .any (l'++[oL]).toArray fuel ((t/1)/(Region.ready .any (l'++[oL]).toArray (l++[true]).toArray).length) ((l++[true]).toArray.setIfInBounds i true) [i]
     | none=>[].reverse)=_
    rw[m];rfl
  rw[g];exact hQ _ _ _ _ hq
 intro fuel;induction fuel with
 | zero =>
  intro t l e ds Y Z hl hcl h;exact fin 0 t l e ds Y Z hl hcl ((rd _ _).symm.trans h.1) h.2
 | succ fuel ih =>
  intro t l e ds Y Z hl hcl h;rcases h with h|⟨Y8,Z8,hgh,_,h₀,h₁⟩
  ·exact fun tm k cs ht=>Rc h
  refine fun tm k cs ht=>.ghost hgh ?_;revert tm k cs
  change Va C V b n (l'++[oL]).toArray (Region.linearise.go .any (l'++[oL]).toArray (fuel+1+1) t (l++[false]).toArray []) Q e ds Y8 Z8
  by_cases hr:Dl l' l=[]
  ·exact fin (fuel+1) t l e ds Y8 Z8 hl hcl hr (h₀ ((rd _ _).trans hr))
  obtain⟨a,d,u⟩:=f l hl hcl;rw[if_neg hr]at a;rw[Region.linearise.go]
  change Va C V b n (l'++[oL]).toArray (match (Region.ready .any (l'++[oL]).toArray (l++[false]).toArray)[t%(Region.ready .any (l'++[oL]).toArray (l++[false]).toArray).length]? with
   | some i=>Region.linearise.go .any (l'++[oL]).toArray (fuel+1) (t/(Region.ready .any (l'++[oL]).toArray (l++[false]).toArray).length) ((l++[false]).toArray.setIfInBounds i true) [i]
   | none=>[].reverse) Q e ds Y8 Z8
  rw[rd,a];have w:0<(Dl l' l).length:=Bdg.2 hr;have hlt:t%(Dl l' l).length<(Dl l' l).length:=Aqu _ w;rw[Ps hlt];simp only[];have hi:(Dl l' l)[t%(Dl l' l).length]∈Dl l' l:=Aql hlt;generalize (Dl l' l)[t%(Dl l' l).length]=i at hi;have hi':i<l'.length:=by
   have:=(Rg.1 (show i∈(List.range l'.length).filter _ from hi)).1;simpa using this
  rw[linearise_go_acc,List.reverse_singleton,Bmh];have c:=h₁ i (by rw[rd];exact hi);have p:(l++[false]).toArray.setIfInBounds i true=(l.set i true++[false]).toArray:=by
   simp[List.set_append_left _ _ (hl ▸ hi')]
  have q:l.toArray.setIfInBounds i true=(l.set i true).toArray:=by simp
  rw[p];refine Uc hs hk ?_;have ho:l'[i]?=some l'[i]:=Ps hi';have x:(l'++[oL])[i]?=some l'[i]:=by rw[Aiv hi',ho]
  have hgn:(l'[i]).guard=none:=by
   have:=Te.1 hg _ (Aql hi');simpa using this
  unfold OpH at c ⊢;simp only[Jw,ho,x]at c ⊢;have y:Bz l'.toArray l'[i] e=true:=by unfold Bz;rw[hgn]
  have z:Bz (l'++[oL]).toArray l'[i] e=true:=by unfold Bz;rw[hgn]
  rw[if_pos y]at c;rw[if_pos z];refine Eu (fun nx Z' hn=>hn.mono fun v ds Y Z hh=>?_) _ _ c;refine ih _ _ _ _ _ _ (by simpa using hl) (u i hi) ?_;rw[<-q];exact hh.2
theorem Ge{V:Ql}{l₀:List Oper}{id:Nat}{Q:Hu}{e:Env}{ds:List Deferred}{Y:Ro}{Z:Own}(hs:Nm n l₀=true)(hk:b.kind ≠ .early)(h:Ee C V b n l₀ l₀ (fun e ds Y Z=>Q .normal e ds Y Z) e ds Y Z):WpP C V b n (.region id l₀.toArray false) Q e ds Y Z:=by refine Wp (Ih hs) hk ?_;have:=h [] rfl (Ih hs) hk;simpa[Awn]using this
end
end
section
theorem Zj{α}[Dat α]{Y el v}{xs:List α}{gr Z}(hG:Grow Y el v xs gr)(h:NoRecv Z):NoRecv (gr++Z):=h.of fun p hp=>(Gv.1 hp).elim (fun hm=>.inr (.inl (hG.1 _ hm))) .inl
end
section
open Go Go.WideShapes Go.ChangeShapes Go.RowKit Go.Conc
def Aqy(P:Program)(W0:World):Frame->List Frame->Ro->Own->Cy->Prop:=fun fr cs Y Z K =>
 Ade P fr cs Y Z K ∨
 (∃(gr:Own) (Y':Ro),NoRecv Z/\(∀p∈gr,W0.heap.size<=p.1/\∃o,p.2=Res.obj o/\Y p.1=some o)/\(keys gr).Nodup/\Ro.le Y' Y/\(∀p∈gr,Y' p.1=none)/\K fr cs Y' (gr++Z)) ∨
 ((∀b∈keys Z,W0.heap.size<=b)->K fr cs Y Z)
section
variable{P:Program}{Pst:Value->World->Prop}{W0:World}{fr:Frame}{cs:List Frame}{Y:Ro}{Z:Own}
theorem Bgu{gr Y'}(hn:NoRecv Z)(hg:∀p∈gr,W0.heap.size<=p.1/\∃o,p.2=Res.obj o/\Y p.1=some o)(hnd:(keys gr).Nodup)(hle:Ro.le Y' Y)(hno:∀p∈gr,Y' p.1=none)(hK:Fine P W0 Pst fr cs Y' (gr++Z)):Fine P W0 Pst fr cs Y Z:=by
 refine⟨fun gs w sl t q h=>hK.A gs w sl t q {h with sat:=?_,nr:=?_,newk:=?_},fun c vs j Am Aw Sh fw cw ρw σw wp gs w sl t q _ h=>absurd h.hc (hn.recv _ _),fun c j Am Aw Sh pc gs w sl t q h=>absurd h.hc (hn.recv _ _),fun c k l B r d f gs w sl t q hne _ h=>(h.calm hne hn).elim⟩
 ·have hk:keys (gr++Z)=keys gr++keys Z:=Mi;refine⟨fun k ok hk=>h.sat.ro k ok (hle k ok hk),fun p hp=>?_,?_,fun k hk'=>?_⟩
  ·rcases Gv.1 hp with hp|hp
   ·obtain⟨_,o,ho,hr⟩:=hg p hp;rw[ho];exact h.sat.ro _ _ hr
   ·exact h.sat.own p hp
  ·rw[hk,Aix];refine⟨hnd,h.sat.nd,fun a ha b hb e=>?_⟩;subst e;obtain⟨p,hp,rfl⟩:=Lp.1 ha;obtain⟨_,o,_,hr⟩:=hg p hp;have:=h.sat.dj _ hb;rw[hr]at this;cases this
  ·rw[hk,Gv]at hk';rcases hk' with hk'|hk'
   ·obtain⟨p,hp,rfl⟩:=Lp.1 hk';exact hno p hp
   ·cases hr:Y' k with
    | none=>rfl
    | some o=>have:=h.sat.dj k hk';rw[hle k o hr]at this;cases this
 ·exact hn.of fun p hp=>(Gv.1 hp).elim (fun hm=>by obtain⟨_,o,ho,_⟩:=hg _ hm;exact .inr (.inl ⟨o,ho⟩)) .inl
 ·intro b hb;rw[show keys (gr++Z)=keys gr++keys Z from Mi,Gv]at hb;rcases hb with hb|hb
  ·obtain⟨p,hp,rfl⟩:=Lp.1 hb;exact(hg p hp).1
  ·exact h.newk b hb
theorem Azy(hK:(∀b∈keys Z,W0.heap.size<=b)->Fine P W0 Pst fr cs Y Z):Fine P W0 Pst fr cs Y Z :=
 ⟨fun gs w sl t q h=>(hK h.newk).A gs w sl t q h,fun c vs j Am Aw Sh fw cw ρw σw wp gs w sl t q hW h=>(hK h.newk).B c vs j Am Aw Sh fw cw ρw σw wp gs w sl t q hW h,fun c j Am Aw Sh pc gs w sl t q h=>(hK h.newk).C c j Am Aw Sh pc gs w sl t q h,fun c k l B r a d gs w sl t q e f h=>(hK h.newk).N c k l B r a d gs w sl t q e f h⟩
theorem Aop(h:GoesH ⟨P,true,Aqy P W0⟩ (Agg P W0 Pst) fr cs Y Z):Fine P W0 Pst fr cs Y Z:=by
 induction h with
 | stop h=>exact Aex h
 | ghost hg _ ih=>exact ih.ghost hg
 | step K h1 _ ih=>exact Aew h1 ih
 | @ext fr cs Y Z K h1 _ ih =>
  rcases h1 with h1|⟨gr,Y',h1,h2,h3,h4,h5,h6⟩|h1
  ·exact Blc h1 ih
  ·exact Bgu h1 h2 h3 h4 h5 (ih _ _ _ _ h6)
  ·exact Azy fun hk=>ih _ _ _ _ (h1 hk)
theorem Aue{F}(h:GoesH ⟨P,true,Aqy P W0⟩ (Agg P W0 Pst) F [] Y [])(hro:∀b o,Y b=some o->W0.heap[b]?=some o/\o.isChan=false):
  ∃M last o w' t',runNT P (M+1) (solo (G F []) W0) #[]=(.ended o w',t')/\runN P M (solo (G F []) W0) = .next last/\step P last = .ended o w'/\Go.Conc.Good P Pst last o w' t':=by
 have hw:My P Pst (crowd #[G F []] W0 none) #[]:=(Aop h).A #[G F []] W0 none #[] (fun _=>0) {
  g0:=⟨G F [],rfl,Is.of _ _⟩
  oth:=fun k y hk hy=>by
   match k with
   | 0=>exact absurd rfl hk
   | k+1=>simp at hy
  sat:=⟨hro,fun p hp=>absurd hp Xp,Aqn,fun b hb=>absurd hb Xp⟩
  nr:=.nil
  newk:=fun b hb=>by cases hb
  below:=Below.refl _ _
  tr:=TA.nil }
 exact hw
theorem Auj{f r args R}(h:Agd ⟨P,true,Aqy P W0⟩ f r args Y [] R)(hi:P.inits.idxOf? f=none)(hR:∀v Y' Z',R v Y' Z'->Z'=[]/\∀W,Below W0.heap.size W0 W->Pst v W):GoesH ⟨P,true,Aqy P W0⟩ (Agg P W0 Pst) (Frame.enter P f args.toArray .normal) [] Y []:=by
 obtain⟨fn,c,hf,hc,hr,ha,hw⟩:=h;have hf:P.funcs[f]?=some fn:=hf;have d:Frame.enter P f args.toArray .normal=Fr ⟨f,.normal,none⟩ (args.toArray++Array.replicate (fn.ntmps-args.toArray.size) undef) [] [.code c]:=by
  simp[Frame.enter,hf,hc,Fr]
 rw[d];refine((hw (fun ex e ds Y Z=>(∀id,ex ≠ .exit id)/\ds=[]/\R (e r) Y Z) (fun e Y' Z' h=>⟨fun id h=>(by cases h),rfl,h⟩) (fun e Y' Z' h=>⟨fun id h=>(by cases h),rfl,h⟩)).stops _ [] [] (Tn ha)).bind ?_;rintro _ _ Y' Z' ⟨rfl,ex,tm',e',ds',a,g,⟨i,rfl,j⟩,b,rfl⟩;obtain⟨rfl,hp⟩:=hR _ _ _ j;have fin:∀a,GoesH ⟨P,true,Aqy P W0⟩ (Agg P W0 Pst) {Fr ⟨f,.normal,none⟩ tm' [] a with mode:=.returning} [] Y' []:=fun a=>by
  refine .stop ⟨.nil,fun W hs hb _=>⟨e' r,W,#[],?_,fun ev hv=>by simp at hv,hp W hb⟩⟩;have hrs:(results fn tm').runT P W #[]=(.ok (e' r) W,#[]):=by
   rw[<-g.2 r];unfold results;rw[hr,Bau];rfl
  simp[Conc.G,stepG,Fr,unwind,hf,-Sem.runT_eq,hrs,doReturn,hi,GStep.after,seen]
 cases ex with
 | normal =>
  cases b;exact Eh (fr':={Fr ⟨f,.normal,none⟩ tm' [] [] with mode:=.returning}) (cs':=[]) (fun W=>by simp[Conc.G,stepG,stepG.exec,Fr]) (fin _)
 | exit id=>exact absurd rfl (i id)
 | ret =>
  obtain⟨pre,rfl⟩:=b;exact Eh (fr':={Fr ⟨f,.normal,none⟩ tm' [] (.code .ret::(pre++[])) with mode:=.returning}) (cs':=[]) (fun W=>by simp[Conc.G,stepG,stepG.exec,Fr]) (fin _)
end
theorem GoesH.ctx{P mn X YQ}(hX:∀fr cs Y Z K,X fr cs Y Z K->YQ fr cs Y Z K){S fr cs Y Z}(h:GoesH ⟨P,mn,X⟩ S fr cs Y Z):GoesH ⟨P,mn,YQ⟩ S fr cs Y Z:=by
 induction h with
 | stop h=>exact .stop h
 | ghost hg _ ih=>exact .ghost hg ih
 | step K h1 _ ih=>exact .step K h1 ih
 | ext K h1 _ ih=>exact .ext K (hX _ _ _ _ _ h1) ih
noncomputable abbrev CY(W0:World):Ctx:=CX true (Aqy Tryz.prog W0)
theorem Adn{W0 f args Y Z R}(h:CallsH (CX true (Ade Tryz.prog)) f args Y Z R):CallsH (CY W0) f args Y Z R :=
 fun c cs=>(h c cs).ctx fun _ _ _ _ _ h=>.inl h
section
variable{W0:World}{b:FB}{n:Nat}{e:Env}{ds:List Deferred}{Y:Ro}{Z:Own}
end
end
section
theorem Ave{P fr cs s W W' v es}(hk:fr.kind ≠ .early)(hr:s.runT P W #[]=(.ok (.value v) W',es)):
  stepG.apply P true fr cs none s W = .go (Conc.G (fr.finish v) cs) W' (seen P fr.fn es):=by
 have hk':(fr.kind==CallKind.early)=false:=by cases h:fr.kind<;>simp_all<;>rfl
 simp[stepG.apply,-Sem.runT_eq,hr,hk',GStep.after,Conc.G]
section
variable{C:Ctx}{b:FB}{n:Nat}{l₀ rest:List Oper}{Q:Env->List Deferred->Ro->Own->Prop}{e:Env}{ds:List Deferred}{Y:Ro}{Z:Own}
end
section
variable{P:Program}{Y:Ro}{e:Env}{ty t t':TypeId}{x:Operand}{kt et:TypeId}{v:Value}
end
end
section
section
variable{P:Program}{Y:Ro}{e:Env}{ty t t':TypeId}{x y:Operand}{v:Value}
theorem Ayy{el a}(hT:P.underlying t=some (.pointer el))(hx:Af e x = .pointer a)(hy:Af e y = .pointer none):Yld P Y e (.binOp .eql t x y t') ty (.bool a.isNone) :=
 Mt (s:=(do eqGuard .eql t x y (Af e x) (Af e y);binOp .eql t (Af e x) (Af e y))) (fun _ _ _ _=>rfl) fun Y' Z _=>by
  rw[hx,hy,show eqGuard .eql t x y (.pointer a) (.pointer none)=pure () from rfl];show wpS P Y' ((Op.equal t (.pointer a) (.pointer none)).bind _) Z _;rw[Ad];show wpS P Y' ((underlying t).bind _) Z _;rw[Ad];refine Az hT ?_;cases a<;>exact⟨rfl,rfl⟩
theorem Bvh{el a n}(hT:P.underlying t=some (.pointer el))(hz:∃i,P.info? el=some i/\i.size=n)(hn:n≠0)(hx:Af e x = .pointer (some a))(hy:Af e y = .pointer (some a)):Yld P Y e (.binOp .neq t x y t') ty (.bool false) :=
 Mt (s:=(do eqGuard .neq t x y (Af e x) (Af e y);binOp .neq t (Af e x) (Af e y))) (fun _ _ _ _=>rfl) fun Y' Z _=>by
  rw[hx,hy,show eqGuard .neq t x y (.pointer (some a)) (.pointer (some a))=pure () from rfl];show wpS P Y' ((Op.equal t (.pointer (some a)) (.pointer (some a))).bind _) Z _;rw[Ad];show wpS P Y' ((underlying t).bind _) Z _;rw[Ad];refine Az hT ?_;show wpS P Y' ((sizeOf el).bind _) Z _;rw[Ad];refine Dx hz ?_;simp only[ne_eq,hn,not_false_eq_true,if_true];show wpS P Y' (sameAddr a a) Z _;unfold sameAddr;simp only[beq_self_eq_true,if_true];exact⟨rfl,rfl⟩
end
section
variable{C:Ctx}{e:Env}{ds:List Deferred}{Y:Ro}{Z:Own}{K:Value->List Deferred->Ro->Own->Prop}{rd:Option Nat}{dd:Option Tmp}
variable{ty:TypeId}{pos:String}{af:Array Edge}{g:Option (Nat×Bool)}{x:Operand}{t t' t2:TypeId}
theorem Aok{P a c t1 fz}(h:Has Y Z a.block (.cells c t1 fz)){Q}(hq:Q a Z):wpS P Y (Conv.seenAt a) Z Q:=by unfold Conv.seenAt viewAt;show wpS P Y (((shape a.block).bind _).bind _) Z Q;rw[Ad,Ad];refine⟨_,h,?_⟩;exact hq
theorem Bjd{r n i:Nat}{c:List Value}{fz el}(hT:C.P.underlying t=some (.pointer el))(hT':C.P.underlying t'=some .unsafePointer)(hz:∃i,C.P.info? el=some i/\i.size=n)(hn:n≠0)(hx:Af e x = .pointer (some ⟨r,0,none⟩))(hi:Z[i]?=some (r,.obj (.cells c.toArray t2 fz)))(hc:0<c.length)(h:K (.pointer (some ⟨r,0,none⟩)) ds Y Z):wpS C.P Y (execOp (Af e) ⟨dd,.convert t t' x,ty,pos,af,g⟩) Z (NextH C K rd ds Y):=by
 have hh:Has Y Z r (.cells c.toArray t2 fz):=.inr (lZ6 hi);show wpS C.P Y ((convert t t' (Af e x)).bind _) Z _;refine Gd ?_;rw[hx];show wpS C.P Y ((underlying t).bind _) Z _;rw[Ad];refine Az hT ?_;show wpS C.P Y ((underlying t').bind _) Z _;rw[Ad];refine Az hT' ?_;show wpS C.P Y (Conv.unsafePointer t t' (.pointer (some ⟨r,0,none⟩))) Z _;unfold Conv.unsafePointer;show wpS C.P Y ((underlying t).bind _) Z _;rw[Ad];refine Az hT ?_;show wpS C.P Y ((underlying t').bind _) Z _;rw[Ad];refine Az hT' ?_;simp only;show wpS C.P Y ((Conv.seenAt ⟨r,0,none⟩).bind _) Z _;rw[Ad];refine Aok hh ?_;show wpS C.P Y ((cellsIn r).bind _) Z _;rw[Ad];unfold cellsIn;show wpS C.P Y ((shape r).bind _) Z _;rw[Ad];refine⟨_,hh,?_⟩;simp only[Xk];show wpS C.P Y ((sizeOf el).bind _) Z _;rw[Ad];refine Dx hz ?_;have a:¬(0:Nat)>=c.toArray.size:=by rw[show c.toArray.size=c.length by simp];omega
 simp only[a,hn,decide_false,Bool.false_and,Bool.or_self,if_false,Aiw,or_self];exact h
theorem Bve{r n i:Nat}{c:List Value}{fz el}(hT:C.P.underlying t=some .unsafePointer)(hT':C.P.underlying t'=some (.pointer el))(hz:∃i,C.P.info? el=some i/\i.size=n)(hn:n≠0)(hx:Af e x = .pointer (some ⟨r,0,none⟩))(hi:Z[i]?=some (r,.obj (.cells c.toArray t2 fz)))(hl:liesAt C.P C.P.depth t2 (c.length/C.P.cellsOf t2) 0 el 1=true)(h:K (.pointer (some ⟨r,0,none⟩)) ds Y Z):wpS C.P Y (execOp (Af e) ⟨dd,.convert t t' x,ty,pos,af,g⟩) Z (NextH C K rd ds Y):=by have hh:Has Y Z r (.cells c.toArray t2 fz):=.inr (lZ6 hi);show wpS C.P Y ((convert t t' (Af e x)).bind _) Z _;refine Gd ?_;rw[hx];show wpS C.P Y ((underlying t).bind _) Z _;rw[Ad];refine Az hT ?_;show wpS C.P Y ((underlying t').bind _) Z _;rw[Ad];refine Az hT' ?_;show wpS C.P Y (Conv.unsafePointer t t' (.pointer (some ⟨r,0,none⟩))) Z _;unfold Conv.unsafePointer;show wpS C.P Y ((underlying t).bind _) Z _;rw[Ad];refine Az hT ?_;show wpS C.P Y ((underlying t').bind _) Z _;rw[Ad];refine Az hT' ?_;simp only;show wpS C.P Y ((Conv.seenAt ⟨r,0,none⟩).bind _) Z _;rw[Ad];refine Aok hh ?_;show wpS C.P Y ((sizeOf el).bind _) Z _;rw[Ad];refine Dx hz ?_;show wpS C.P Y ((variablesAt ⟨r,0,none⟩ el 1).bind _) Z _;rw[Ad];unfold variablesAt;show wpS C.P Y (program.bind _) Z _;rw[Ad];show wpS C.P Y ((shape r).bind _) Z _;rw[Ad];refine⟨_,hh,?_⟩;simp only[Xk];rw[show c.toArray.size=c.length by simp];show wpS C.P Y (if (decide (n=0)||liesAt C.P C.P.depth t2 (c.length/C.P.cellsOf t2) 0 el 1)=true then _ else _) Z _;rw[hl];simp only[Bool.or_true,if_true];exact h
end
section
variable{C:Ctx}{b:FB}{n:Nat}{l₀ rest:List Oper}{Q:Env->List Deferred->Ro->Own->Prop}{e:Env}{ds:List Deferred}{Y:Ro}{Z:Own}
theorem Cav{V d f fn xs vs G R tys ty pos af g}(hw:Bz l₀.toArray ⟨some d,.call ⟨.value (.func f),xs,tys⟩,ty,pos,af,g⟩ e=true)(hf:C.P.funcs[f]?=some fn)(hn:(fn.name == "runtime.NumGoroutine")=false)(hb:fn.body.isNone=true)(hx0:Extern.findNext fn=none)(he:Extern.find fn=some G)(hx:xs.map (Af e)=vs)(hG:wpS C.P Y (G vs) Z R)(h:∀v Z',R v Z'->Ee C V b n l₀ rest Q (upd e d v) ds Y Z'):
  Ee C V b n l₀ (⟨some d,.call ⟨.value (.func f),xs,tys⟩,ty,pos,af,g⟩::rest) Q e ds Y Z:=by
 intro pre c hs hk tm k cs ht;have ho:l₀.toArray[pre.length]?=some ⟨some d,.call ⟨.value (.func f),xs,tys⟩,ty,pos,af,g⟩:=by subst c;simp
 rw[Gb,Agl];have hev:=ht.eval b ds (.inRegion l₀.toArray (pre.length::List.range' (pre.length+1) rest.length)::k);have w:∀W:World,(execOp (Af e) ⟨some d,.call ⟨.value (.func f),xs,tys⟩,ty,pos,af,g⟩).runT C.P W #[]=((G vs).bind fun v=>Sem.pure (Next.value v)).runT C.P W #[⟨.mark (.extern f),false,true⟩]:=by
  intro W;have j:execOp (Af e) ⟨some d,.call ⟨.value (.func f),xs,tys⟩,ty,pos,af,g⟩=callFunc f vs:=by
   show callFunc f ((#[]++xs.map (Af e)) ++ #[])=_;rw[Aea,Ack,hx]
  rw[j];unfold callFunc;show ((program).bind _).runT C.P W #[]=_;rw[Sem.runT_bind'];simp only[program,Sem.runT,hf,hn,hb];simp only[hx0,he];rfl
 refine .step (fun fr' cs' Z'=>∃v,R v Z'/\fr'=(Fr b tm ds (.inRegion l₀.toArray (pre.length::List.range' (pre.length+1) rest.length)::k)).finish v/\cs'=cs) (fun W x=>?_) ?_
 ·have hwp:wpS C.P Y ((G vs).bind fun v=>Sem.pure (Next.value v)) Z (fun nx Z'=>∃v,R v Z'/\nx = .value v):=by
   rw[Ad];exact Eu (fun v Z' hv=>⟨v,hv,rfl⟩) _ _ hG
  obtain⟨nx,Z',W',es,a,m,p,q⟩:=Rr _ Z _ W #[⟨.mark (.extern f),false,true⟩] hwp x;obtain⟨v,hv,rfl⟩:=m;rw[<-w W]at a;have t:=Ave (fr:=Fr b tm ds (.inRegion l₀.toArray (pre.length::List.range' (pre.length+1) rest.length)::k)) (cs:=cs) (by exact hk) a;have u:∀ev∈seen C.P b.fn es,Acx Y Z' ev:=fun ev he'=>((q ev (Lh he').1).resolve_left fun hc=>Abm he' f (by simp at hc;rw[hc])).resolve_right fun⟨f,hf⟩=>(Lh he').2 f hf;refine⟨_,cs,W',seen C.P b.fn es,_,?_,p,u,v,hv,rfl,rfl⟩;have hst:=Np (C:=C) (b:=b) (ds:=ds) (tm:=tm) (k:=k) (cs:=cs) (rest:=List.range' (pre.length+1) rest.length) ho (by rw[Ij hs ht];exact hw) (fun c' h'=>by cases h') W;refine hst.trans ?_;rw[hev];exact t
 ·rintro _ _ Z' ⟨v,hv,rfl,rfl⟩;rw[Ju ho];have i:=h v Z' hv (pre++[⟨some d,.call ⟨.value (.func f),xs,tys⟩,ty,pos,af,g⟩]) (by rw[c];simp) hs hk;rw[lZ4,Xo]at i;exact i _ k _ (Jj hs ht ho _)
theorem Bnb{V d f fn xs vs G v tys ty pos af g}(hw:Bz l₀.toArray ⟨some d,.call ⟨.value (.func f),xs,tys⟩,ty,pos,af,g⟩ e=true)(hf:C.P.funcs[f]?=some fn)(hn:(fn.name == "runtime.NumGoroutine")=false)(hb:fn.body.isNone=true)(hx0:Extern.findNext fn=none)(he:Extern.find fn=some G)(hx:xs.map (Af e)=vs)(hG:wpS C.P Y (G vs) Z (fun w Z'=>w=v/\Z'=Z))(h:Ee C V b n l₀ rest Q (upd e d v) ds Y Z):
  Ee C V b n l₀ (⟨some d,.call ⟨.value (.func f),xs,tys⟩,ty,pos,af,g⟩::rest) Q e ds Y Z :=
 Cav hw hf hn hb hx0 he hx hG fun _ _ ⟨a,c⟩=>by subst a c;exact h
end
theorem Cax{e x v}(h:Af e x=v):(#[x]:Array Operand).map (Af e) = #[v]:=by simp[h]
theorem Cay{e x y v w}(h:Af e x=v)(h':Af e y=w):(#[x,y]:Array Operand).map (Af e) = #[v,w]:=by simp[h,h']
theorem Bkx{P Y Z v}:wpS P Y (Extern.AbiNoEscape.same #[v]) Z (fun w Z'=>w=v/\Z'=Z):=⟨rfl,rfl⟩
end
section
section
variable{C:Ctx}{e:Env}{ds:List Deferred}{Y:Ro}{Z:Own}{K:Value->List Deferred->Ro->Own->Prop}{rd:Option Nat}{dd:Option Tmp}
variable{ty:TypeId}{pos:String}{af:Array Edge}{g:Option (Nat×Bool)}{x y:Operand}{v:Value}{t t':TypeId}
theorem Aim{xs ys gr el z ti}(hT:C.P.underlying t=some (.slice el))(hT':C.P.underlying t'=some .string)(hi:C.P.info? el=some ti)(hik:ti.size=Dat.k UInt8)(hib:ti.bytes<=1000)(hz:ti.zero=some z)(hzk:z.cells.size=Dat.k UInt8)(hx:Af e x=v)(hy:Af e y = .string (bs ys))(hv:Grow Y el v xs gr)(hlen:xs.length+ys.length<2^30)(h:∀v' gr',Grow Y el v' (xs++ys) gr'->K v' ds Y (gr'++Z)):wpS C.P Y (execOp (Af e) ⟨dd,.call ⟨.builtin .append,#[x,y],#[t,t']⟩,ty,pos,af,g⟩) (gr++Z) (NextH C K rd ds Y):=by
 have J:(#[x,y]:Array Operand).map (Af e) = #[v,.string (bs ys)]:=by simp[hx,hy]
 show wpS C.P Y (builtin .append #[t,t'] ty ((#[x,y]:Array Operand).map fun | .const _=>true|_=>false) ((#[x,y]:Array Operand).map (Af e))) _ _;rw[J];show wpS C.P Y ((Builtin.append_ #[t,t'] ty #[v,.string (bs ys)]).bind fun v=>Sem.pure (Next.value v)) _ _;refine Gd ?_;obtain⟨va,vl,vc,hvs⟩:∃va vl vc,v = .slice va vl vc/\vl=xs.length:=by
  rcases hv.2.2 with⟨d,f⟩|⟨r,cap,cs,rs,gb,d,_⟩
  ·exact⟨none,0,0,d,by rw[f];rfl⟩
  ·exact⟨_,_,_,d,rfl⟩
 obtain⟨hvs,hvl⟩:=hvs;subst hvl;have hGo:∀(Q:Value->Own->Prop),(∀v' gr',Grow Y el v' (xs++ys) gr'->Q v' (gr'++Z))->wpS C.P Y (Builtin.append_ #[t,t'] ty #[v,.string (bs ys)]) (gr++Z) Q:=by
  intro Q hQ;have B:∀{Q:Array Value->Own->Prop} {Z':Own},(∀cs,Rows Y cs ys->Q cs.toArray Z')->wpS C.P Y (Builtin.firstCells (Dat.k UInt8) ys.length (.string (bs ys))) Z' Q:=fun {Q Z'} hq=>by
   show Q (((bs ys).extract 0 ys.length).data.map fun (b:UInt8)=>Value.int .u8 (b.toNat:Int)) Z';rw[Akw,Agm,Apa];have e:((bs ys).data.map fun (b:UInt8)=>Value.int .u8 (b.toNat:Int))=(ys.map fun (c:UInt8)=>Value.int .u8 (c.toNat:Int)).toArray:=by apply Array.ext';simp[bs]
   rw[e];exact hq _ (Ug _)
  rw[hvs];unfold Builtin.append_;show wpS C.P Y ((underlying t).bind _) _ _;rw[Ad];refine Az hT ?_;show wpS C.P Y ((sizeOf el).bind _) _ _;rw[Ad];refine Dx ⟨ti,hi,hik⟩ ?_;show wpS C.P Y ((underlying t').bind _) _ _;rw[Ad];refine Az hT' ?_;have N:∀{Q:Array Value->Own->Prop},(∀cs,Rows Y cs xs->Q cs.toArray (gr++Z))->wpS C.P Y (Builtin.firstCells (Dat.k UInt8) xs.length (.slice va xs.length vc)) (gr++Z) Q:=fun {Q} hq=>by
   rcases hv.2.2 with⟨d,f⟩|⟨r,cap,cs,rs,gb,d,f,m,q,I⟩
   ·subst f;rw[hvs]at d;simp only[Nx,Value.slice.injEq]at d;obtain⟨rfl,-,rfl⟩:=d;exact hq [] rfl
   ·rw[hvs]at d;cases d;show wpS C.P Y (loadCells ⟨r,0,none⟩ (xs.length*Dat.k UInt8)) _ _;rw[<-m.len];refine Ff (a:=⟨r,0,none⟩) (o:=.cells (cs++rs).toArray el (0,0)) rfl (.inr (by rw[f];simp)) cs 0 #[] (fun j u hj=>?_) ?_
    ·simp only[Gy,Qz,Jw];rw[Aiv (lZ1.1 hj).1];exact hj
    ·have D:(#[]:Array Value)++cs.toArray=cs.toArray:=by simp
     rw[D];exact hq cs m
  by_cases hn:xs.length+ys.length<=vc
  ·show wpS C.P Y (if xs.length+ys.length<=vc then (Builtin.firstCells (Dat.k UInt8) ys.length (.string (bs ys))).bind _ else _) _ _;rw[if_pos hn,Ad];refine B fun cs' n=>?_;rcases hv.2.2 with⟨d,f⟩|⟨r,cap,cs,rs,gb,d,f,m,q,I⟩
   ·subst f;rw[hvs]at d;simp only[Nx,Value.slice.injEq]at d;obtain⟨rfl,-,rfl⟩:=d;have R:ys=[]:=Bar (by simpa using hn);subst R;exact hQ _ gr ⟨hv.1,by simp,.inl ⟨rfl,rfl⟩⟩
   ·rw[hvs]at d;cases d;show wpS C.P Y ((storeCells ((⟨r,0,none⟩:Addr).add (xs.length*Dat.k UInt8)) cs'.toArray.toList).bind _) _ _;rw[Ad,Ld,Awq,Qz];have hl:xs.length*Dat.k UInt8+cs'.length<=(cs++rs).length:=by
     rw[q,n.len,<-Yo];exact Awo _ hn
    refine Ns (r:=r) (i:=0) cs' ⟨r,xs.length*Dat.k UInt8,none⟩ 0 (cs++rs) (gr++Z) rfl rfl n.sgl (by rw[f];rfl) (by simpa using hl) ?_;have E:over (cs++rs) (xs.length*Dat.k UInt8+0) cs'=(cs++cs')++(cs++rs).drop (xs.length*Dat.k UInt8+cs'.length):=by
     rw[Abk,Qe _ _ _ hl,<-m.len,Ams,lZ9]
    have F:(gr++Z).set 0 (r,Res.obj (.cells (over (cs++rs) (xs.length*Dat.k UInt8+0) cs').toArray el (0,0)))=((r,Res.obj (.cells ((cs++cs')++(cs++rs).drop (xs.length*Dat.k UInt8+cs'.length)).toArray el (0,0)))::gb)++Z:=by
     rw[f,E];rfl
    simp only[];rw[F];refine hQ _ _ ⟨fun p hp=>?_,by rw[lZ4];omega,.inr ⟨r,vc,cs++cs',_,gb,by rw[lZ4,Nn],rfl,m.append n,?_,by rw[lZ4];exact hn⟩⟩
    ·rcases lZ8.1 hp with rfl|hp
     ·exact⟨_,rfl⟩
     ·exact hv.1 p (by rw[f];exact lZ0 _ hp)
    ·rw[lZ4,lZ4,Tf,<-q,m.len];omega
  ·show wpS C.P Y (if xs.length+ys.length<=vc then _ else (typeInfo el).bind _) _ _;rw[if_neg hn,Ad];refine Gj hi ?_;have L:¬(((xs.length+ys.length:Nat):Int)>IntKind.i64.max/\((false=true)∨ti.bytes=0)):=by
    intro⟨d,_⟩;have:IntKind.i64.max=9223372036854775807:=by simp[IntKind.max,IntKind.signed,IntKind.bits]
    omega
   show wpS C.P Y (if ((xs.length+ys.length:Nat):Int)>IntKind.i64.max/\((false=true)∨ti.bytes=0) then _ else (typeInfo el).bind _) _ _;rw[if_neg L,Ad];refine Gj hi ?_;have M:¬(Builtin.nextslicecap (xs.length+ys.length) vc*ti.bytes>2^48):=by
    have d:=Alk (need:=xs.length+ys.length) (cap:=vc) (by omega);have f:Builtin.nextslicecap (xs.length+ys.length) vc*ti.bytes<=(2*(xs.length+ys.length)+1000)*1000:=Anc d hib;omega
   show wpS C.P Y (if Builtin.nextslicecap (xs.length+ys.length) vc*ti.bytes>2^48 then _ else (choose (.appendCap (xs.length+ys.length) vc el)).bind _) _ _;rw[if_neg M,Ad];show (if (Question.appendCap (xs.length+ys.length) vc el).forced then _ else ∀tt,_);rw[if_neg (by simp[Question.forced])];intro tt;have w:xs.length+ys.length<=(Question.appendCap (xs.length+ys.length) vc el).cut tt:=by simp[Question.cut]
   generalize (Question.appendCap (xs.length+ys.length) vc el).cut tt=nc at w;show wpS C.P Y ((typeInfo el).bind _) _ _;rw[Ad];refine Gj hi ?_;show wpS C.P Y ((askRoom (nc*ti.bytes)).bind _) _ _;rw[Ad];have O:∀{Q:Unit->Own->Prop} {Z':Own},Q () Z'->wpS C.P Y (askRoom (nc*ti.bytes)) Z' Q:=fun hq=>by
    unfold askRoom;split
    ·exact⟨rfl,hq⟩
    ·exact hq
   refine O ?_;show wpS C.P Y ((Builtin.firstCells (Dat.k UInt8) xs.length (.slice va xs.length vc)).bind _) _ _;rw[Ad];refine N fun cs hcs=>?_;show wpS C.P Y ((Builtin.firstCells (Dat.k UInt8) ys.length (.string (bs ys))).bind _) _ _;rw[Ad];refine B fun cs' n=>?_;show wpS C.P Y ((zeroValue el).bind _) _ _;rw[Ad];refine Jz ⟨ti,hi,hz⟩ ?_;show wpS C.P Y ((newRow el (cs.toArray++cs'.toArray++Builtin.zeroCells z.cells (nc-(xs.length+ys.length)))).bind _) _ _;rw[Ad];refine Ik fun r=>?_;have G:(cs.toArray++cs'.toArray++Builtin.zeroCells z.cells (nc-(xs.length+ys.length)))=((cs++cs')++(Builtin.zeroCells z.cells (nc-(xs.length+ys.length))).toList).toArray:=by
    apply Array.ext';simp
   rw[G];refine hQ _ ((r,Res.obj (.cells ((cs++cs')++(Builtin.zeroCells z.cells (nc-(xs.length+ys.length))).toList).toArray el (0,0)))::gr) ⟨fun p hp=>?_,by rw[lZ4];omega,.inr ⟨r,nc,cs++cs',_,gr,by rw[lZ4,Nn],rfl,hcs.append n,?_,by rw[lZ4];exact w⟩⟩
   ·rcases lZ8.1 hp with rfl|hp
    ·exact⟨_,rfl⟩
    ·exact hv.1 p hp
   ·have H:(Builtin.zeroCells z.cells (nc-(xs.length+ys.length))).toList.length=(nc-(xs.length+ys.length))*Dat.k UInt8:=by
     simp[Builtin.zeroCells,hzk]
    rw[lZ4,lZ4,hcs.len,n.len,H,<-Yo,<-Yo];congr 1;omega
 exact hGo _ h
end
end
section
theorem Aoi{α:Type}{P:Program}{Y:Ro}{Z:Own}{Q:α->Own->Prop}{c:Prop}[Decidable c]{a b:Sem α}(hc:¬c)(h:wpS P Y b Z Q):wpS P Y (if c then a else b) Z Q:=by rw[if_neg hc];exact h
theorem Bqp{α:Type}{P:Program}{Y:Ro}{Z:Own}{Q:α->Own->Prop}{c:Prop}[Decidable c]{a b:Sem α}(hc:c)(h:wpS P Y a Z Q):wpS P Y (if c then a else b) Z Q:=by rw[if_pos hc];exact h
theorem Ajh(t t' ty:TypeId)(a:Addr)(n:Int):∃A B D:Sem Value,Builtin.unsafeString_ #[t,t'] ty #[.pointer (some a),.int .i64 n]=if n<0 then A else if n>IntKind.i64.max then B else if n=0 then Sem.pure (.string .empty) else
  (elemOf t).bind fun u=>(variablesAt a u n.toNat).bind fun ok=>if ok=true then (loadBytes a .empty n.toNat).bind fun s=>(freeze a n.toNat).bind fun _=>Sem.pure (.string s) else D:=⟨_,_,_,rfl⟩
theorem Bsu{α}[Dat α]{Y el v}{xs:List α}{gr}(h:Grow Y el v xs gr)(hx:xs≠[]):∃cap,v = .slice (some ⟨Ahx v,0,none⟩) xs.length cap/\cap≠0:=by
 rcases h.2.2 with⟨_,a⟩|⟨r,cap,cs,rs,gb,b,a,c,d,e⟩
 ·exact absurd a hx
 ·subst b;refine⟨cap,rfl,?_⟩;have:0<xs.length:=Bdg.2 hx;omega
theorem Ayz{P Y Y9 e ty t el x v}{xs:List UInt8}{gr}(hG:Grow Y9 el v xs gr)(hn:xs≠[])(hx:Af e x=v):Yld P Y e (.call ⟨.builtin .unsafeSliceData,#[x],#[t]⟩) ty (.pointer (some ⟨Ahx v,0,none⟩)):=by obtain⟨cap,a,b⟩:=Bsu hG hn;generalize Ahx v=bl at a ⊢;subst a;refine Mc (args:=[x]) (vs:=[.slice (some ⟨bl,0,none⟩) xs.length cap]) (s:=fun _=>Builtin.unsafeSliceData_ #[t] ty #[.slice (some ⟨bl,0,none⟩) xs.length cap]) (by simp[hx]) (fun _=>rfl) fun Y' Z cs _=>?_;show wpS P Y' (if cap≠0 then (Sem.pure (Value.pointer (some ⟨bl,0,none⟩))) else _) Z _;rw[if_pos b];exact⟨rfl,rfl⟩
theorem Caw{n cap}(h:n<=cap):liesAt Tryz.prog Tryz.prog.depth 5 (cap/Tryz.prog.cellsOf 5) 0 5 n=true:=by
 have a:(Tryz.prog.depth==0)=false:=by kernel_rfl
 have hs:sameLayout Tryz.prog Tryz.prog.depth 5 5=true:=by kernel_rfl
 have hc:Tryz.prog.cellsOf 5=1:=by kernel_rfl
 rw[hc,Nat.div_one];generalize hD:Tryz.prog.depth=D at *;cases D with
 | zero=>cases a
 | succ d =>
  have hr:rowAt Tryz.prog (sameLayout Tryz.prog (d+1) · 5) (d+1) 5 cap 0 n=true:=by
   unfold rowAt;simp only[hc,hs];simp[h]
  unfold liesAt;rw[hD,hr];rfl
theorem Bvp{P:Program}{Y:Ro}{Z:Own}{r:Nat}{o:Obj}(ho:Has Y Z r o){Q:ByteArray->Own->Prop}:∀(l:List UInt8) (off:Nat) (acc:ByteArray),
  (∀j c,l[j]?=some c->Gy o (off+j)=some (.int .u8 (c.toNat:Int)))->Q (acc++bs l) Z->wpS P Y (loadBytes ⟨r,off,none⟩ acc l.length) Z Q
 | [],off,acc,_,h=>by
  have e:acc++bs []=acc:=by apply ByteArray.ext;rw[ByteArray.data_append];simp[bs]
  rw[e]at h;exact h
 | c::l,off,acc,hc,h=>by
  show wpS P Y ((load ⟨r,off,none⟩).bind _) Z Q;rw[Ad];refine⟨rfl,rfl,o,_,ho,by simpa using hc 0 c rfl,?_⟩;show wpS P Y (loadBytes ⟨r,off+1,none⟩ (acc.push ((c.toNat:Int).toNat).toUInt8) l.length) Z Q;refine Bvp ho l (off+1) _ (fun j d hd=>?_) ?_
  ·have:=hc (j+1) d (by simpa using hd);rw[show off+1+j=off+(j+1) by omega];exact this
  ·have e:acc.push ((c.toNat:Int).toNat).toUInt8++bs l=acc++bs (c::l):=by
    apply ByteArray.ext;rw[ByteArray.data_append,ByteArray.data_append];show (acc.data.push _)++l.toArray=acc.data++(c::l).toArray;rw[show ((c.toNat:Int).toNat).toUInt8=c by rw[Yk];exact UInt8.ofNat_toNat];apply Array.ext';simp
   rw[e];exact h
section
variable{C:Ctx}{e:Env}{ds:List Deferred}{Y:Ro}{Z:Own}{K:Value->List Deferred->Ro->Own->Prop}{rd:Option Nat}{dd:Option Tmp}
variable{ty:TypeId}{pos:String}{af:Array Edge}{g:Option (Nat×Bool)}{x y:Operand}{v:Value}{t t':TypeId}
theorem Aof{xs gr el et}(hT:C.P.underlying t=some (.pointer et))(hn:xs≠[])(hG:Grow Y el v xs gr)(hx:Af e x = .pointer (some ⟨Ahx v,0,none⟩))(hy:Af e y = .int .i64 (xs.length:Int))(hl:∀n cap,n<=cap->liesAt C.P C.P.depth el (cap/C.P.cellsOf el) 0 et n=true)(h:∀gr':Own,(∀p∈gr',∃o,p.2=Res.obj o)->K (.string (bs xs)) ds Y (gr'++Z)):wpS C.P Y (execOp (Af e) ⟨dd,.call ⟨.builtin .unsafeString,#[x,y],#[t,t']⟩,ty,pos,af,g⟩) (gr++Z) (NextH C K rd ds Y):=by
 have q:(#[x,y]:Array Operand).map (Af e) = #[.pointer (some ⟨Ahx v,0,none⟩),.int .i64 (xs.length:Int)]:=by simp[hx,hy]
 show wpS C.P Y (builtin .unsafeString #[t,t'] ty ((#[x,y]:Array Operand).map fun | .const _=>true|_=>false) ((#[x,y]:Array Operand).map (Af e))) _ _;rw[q];show wpS C.P Y ((Builtin.unsafeString_ #[t,t'] ty #[.pointer (some ⟨Ahx v,0,none⟩),.int .i64 (xs.length:Int)]).bind fun v=>Sem.pure (Next.value v)) _ _;refine Gd ?_;have z:0<xs.length:=Bdg.2 hn;have hlt:=hG.2.1;rcases hG.2.2 with⟨_,a⟩|⟨r,cap,cs,rs,gb,i,a,b,k,m⟩
 ·exact absurd a hn
 ·have hb:Ahx v=r:=by rw[i];rfl
  rw[hb];have ho:Has Y (gr++Z) r (.cells (cs++rs).toArray el (0,0)):=.inr (by rw[a];simp);have hcl:cs.length=xs.length:=by rw[b.len];exact Aqt _
  have hcs:cs=xs.map fun c:UInt8=>Value.int .u8 (c.toNat:Int):=Aud b;have w:(cs++rs).length=cap:=by rw[k];exact Aqt _
  obtain⟨A,B,D,key⟩:=Ajh t t' ty ⟨r,0,none⟩ (xs.length:Int);rw[key];refine Aoi (c:=(xs.length:Int)<0) (by omega) ?_;refine Aoi (c:=(xs.length:Int)>IntKind.i64.max) (by show ¬_>(9223372036854775807:Int);omega) ?_;refine Aoi (c:=(xs.length:Int)=0) (by omega) ?_;show wpS C.P Y ((elemOf t).bind fun u=>(variablesAt ⟨r,0,none⟩ u (xs.length:Int).toNat).bind _) _ _;rw[Ad];show wpS C.P Y ((underlying t).bind _) _ _;rw[Ad];refine Az hT ?_;show wpS C.P Y ((variablesAt ⟨r,0,none⟩ et (xs.length:Int).toNat).bind _) _ _;rw[Ad];unfold variablesAt;show wpS C.P Y (program.bind _) _ _;rw[Ad];show wpS C.P Y ((shape r).bind _) _ _;rw[Ad];refine⟨_,ho,?_⟩;simp only[Xk];rw[show (cs++rs).toArray.size=cap by rw[<-w];simp,Yk];refine Bqp (c:=liesAt C.P C.P.depth el (cap/C.P.cellsOf el) 0 et xs.length=true) (hl _ _ m) ?_;show wpS C.P Y ((loadBytes ⟨r,0,none⟩ .empty xs.length).bind _) _ _;rw[Ad];refine Bvp ho xs 0 _ (fun j c hj=>?_) ?_
  ·simp only[Gy,Qz,Jw];rw[Aiv (by rw[hcl];exact(lZ1.1 hj).1),hcs,Pb,hj];rfl
  ·have d:ByteArray.empty++bs xs=bs xs:=by apply ByteArray.ext;rw[ByteArray.data_append];show #[]++_=_;simp
   rw[d];show wpS C.P Y ((freeze ⟨r,0,none⟩ xs.length).bind _) _ _;rw[Ad];refine .inr ⟨by omega,0,_,el,0,0,by rw[a];rfl,?_⟩;show K (.string (bs xs)) ds Y _;have f:∀o:Res,(gr++Z).set 0 (r,o)=((r,o)::gb)++Z:=fun o=>by rw[a];rfl
   rw[f];exact h _ fun p hp=>by
    rcases lZ8.1 hp with rfl|hp
    ·exact⟨_,rfl⟩
    ·exact hG.1 p (by rw[a];exact lZ0 _ hp)
end
end
section
variable{mn:Bool}{X:Frame->List Frame->Ro->Own->Cy->Prop}{Y:Ro}{Z:Own}
theorem Ast{r}{xs:List UInt8}{vb gb}(hb:Grow Y 5 vb xs gb):CallsH (CX mn X) 83 #[pV r] Y ((r,oC #[.pointer none,vb] 124)::(gb++Z)) (fun w Y' Z'=>Y'=Y/\Z'=(r,oC #[pV r,vb] 124)::(gb++Z)/\w = .tuple #[]):=by refine Bu 20 [] Cfo rfl fun Q e b=>qA fun d c=>Av (pV r) (l_v (Ck rfl) (l_v (Gp Cdz rfl (Ab Ces)) (Arv (Dt (i:=0) (v:=.pointer none) ⟨_,Cee,rfl⟩ rfl rfl rfl ?_))));refine l_v (Ayy (a:=none) Cee rfl rfl) (l_k c (Co rfl rfl (qB (Av (pV r) (Av (pV r) (Arv (Bjd (i:=0) Cee Tryz.underlying265 ⟨_,Ab Cex,rfl⟩ (by decide) rfl rfl nL ?_)))))));refine Bnb rfl Tryz.func131 rfl rfl rfl rfl (Cax rfl) Bkx (Arv (Bve (i:=0) Tryz.underlying265 Cee ⟨_,Ab Cex,rfl⟩ (by decide) rfl rfl (by kernel_rfl) ?_));refine l_v (Ck rfl) (l_v (Gp Cdz rfl (Ab Ces)) (Cx rfl (Cz (j:=0) (v:=pV r) ⟨_,Ab Ces,rfl⟩ rfl rfl rfl rfl nL ?_)));apply Ac;refine b ⟨rfl,rfl,rfl⟩
theorem Asu{r}{xs:List UInt8}{vb gb}(hb:Grow Y 5 vb xs gb):CallsH (CX mn X) 83 #[pV r] Y ((r,oC #[pV r,vb] 124)::(gb++Z)) (fun w Y' Z'=>Y'=Y/\Z'=(r,oC #[pV r,vb] 124)::(gb++Z)/\w = .tuple #[]):=by refine Bu 20 [] Cfo rfl fun Q g b=>qA fun e c=>Av (pV r) (l_v (Ck rfl) (l_v (Gp Cdz rfl (Ab Ces)) (Arv (Dt (i:=0) (v:=pV r) ⟨_,Cee,rfl⟩ rfl rfl rfl ?_))));refine l_v (Ayy (a:=some ⟨r,0,none⟩) Cee rfl rfl) (l_k c (Cg rfl rfl (qA fun f d=>Av (pV r) (l_v (Ck rfl) (l_v (Gp Cdz rfl (Ab Ces)) (Arv (Dt (i:=0) (v:=pV r) ⟨_,Cee,rfl⟩ rfl rfl rfl ?_)))))));refine Av (pV r) (l_v (Bvh Cee ⟨_,Ab Cex,rfl⟩ (by decide) rfl rfl) (l_k d (Cg rfl rfl (Al (b ⟨rfl,rfl,rfl⟩)))))
theorem Akz{r xs vb gb s}(hb:Grow Y 5 vb xs gb)(hx:xs.length+s.length<=1000000000):CallsH (CX mn X) 50 #[pV r,.string (bs s)] Y ((r,oC #[.pointer none,vb] 124)::(gb++Z)) (fun w Y' Z'=>Y'=Y/\∃(v':Value) (gr:Own),w = .tuple #[iV (s.length:Int),.nilIface]/\Grow Y 5 v' (xs++s) gr/\Z'=(r,oC #[pV r,v'] 124)::(gr++Z)):=by refine Bu 19 [4,5] Cfl rfl fun Q e z=>qA fun q g=>Au (iV 0) (Au .nilIface (qC g fun t h=>Av (pV r) (Bj (Cfr Asc) (Bj (Cfr Asd) (Arv (Cm (vs:=[pV r]) (Ast (r:=r) hb) Cfo rfl rfl ⟨rfl,trivial⟩ fun B C D d=>?_))))));obtain⟨a,b,f⟩:=d;replace a:=a.symm;replace b:=b.symm;subst a b f;refine qC h fun u k=>Av (pV r) (Av (pV r) (l_v (Ck rfl) (l_v (Gp Cdz rfl (Ab Ceh)) (Arv (Dt (i:=0) (v:=vb) ⟨_,Cdx,rfl⟩ rfl rfl rfl ?_)))));refine Av (.string (bs s)) (Bj (Cfr Asc) (Arv (Aim (Z:=(r,oC #[pV r,vb] 124)::Z) (gr:=gb) (xs:=xs) (ys:=s) Cdx Cdn (Ab Cfa) rfl nL rfl rfl rfl rfl hb (by omega) fun n y c=>?_)));refine l_v (Ck rfl) (l_v (Gp Cdz rfl (Ab Ceh)) (Bj (Cfr Asd) (Cx rfl (Cz (j:=0) (v:=n) ⟨_,Ab Ceh,rfl⟩ rfl rfl (Grow.single c) rfl nL ?_))));refine qC k fun x m=>Av (.string (bs s)) (l_v (Vs Cdn (p:=s) rfl) (Au (iV (s.length:Int)) (Au .nilIface (l_k m (Aq (e ⟨rfl,_,_,Mp (r:=4) (r':=5) (rs:=[]) (v:=iV (s.length:Int)) (v':=.nilIface) (vs:=[]) ⟨rfl,rfl,trivial⟩,c,rfl⟩))))))
theorem Ala{r xs vb gb s}(hb:Grow Y 5 vb xs gb)(hx:xs.length+s.length<=1000000000):CallsH (CX mn X) 50 #[pV r,.string (bs s)] Y ((r,oC #[pV r,vb] 124)::(gb++Z)) (fun w Y' Z'=>Y'=Y/\∃(v':Value) (gr:Own),w = .tuple #[iV (s.length:Int),.nilIface]/\Grow Y 5 v' (xs++s) gr/\Z'=(r,oC #[pV r,v'] 124)::(gr++Z)):=by refine Bu 19 [4,5] Cfl rfl fun Q e z=>qA fun q g=>Au (iV 0) (Au .nilIface (qC g fun t h=>Av (pV r) (Bj (Cfr Asc) (Bj (Cfr Asd) (Arv (Cm (vs:=[pV r]) (Asu (r:=r) hb) Cfo rfl rfl ⟨rfl,trivial⟩ fun B C D d=>?_))))));obtain⟨a,b,f⟩:=d;replace a:=a.symm;replace b:=b.symm;subst a b f;refine qC h fun u k=>Av (pV r) (Av (pV r) (l_v (Ck rfl) (l_v (Gp Cdz rfl (Ab Ceh)) (Arv (Dt (i:=0) (v:=vb) ⟨_,Cdx,rfl⟩ rfl rfl rfl ?_)))));refine Av (.string (bs s)) (Bj (Cfr Asc) (Arv (Aim (Z:=(r,oC #[pV r,vb] 124)::Z) (gr:=gb) (xs:=xs) (ys:=s) Cdx Cdn (Ab Cfa) rfl nL rfl rfl rfl rfl hb (by omega) fun n y c=>?_)));refine l_v (Ck rfl) (l_v (Gp Cdz rfl (Ab Ceh)) (Bj (Cfr Asd) (Cx rfl (Cz (j:=0) (v:=n) ⟨_,Ab Ceh,rfl⟩ rfl rfl (Grow.single c) rfl nL ?_))));refine qC k fun x m=>Av (.string (bs s)) (l_v (Vs Cdn (p:=s) rfl) (Au (iV (s.length:Int)) (Au .nilIface (l_k m (Aq (e ⟨rfl,_,_,Mp (r:=4) (r':=5) (rs:=[]) (v:=iV (s.length:Int)) (v':=.nilIface) (vs:=[]) ⟨rfl,rfl,trivial⟩,c,rfl⟩))))))
theorem Bgc{r xs vb gb}(hb:Grow Y 5 vb xs gb)(hne:xs≠[]):CallsH (CX mn X) 54 #[pV r] Y ((r,oC #[pV r,vb] 124)::(gb++Z)) (rP Y Z (.string (bs xs))):=by refine Bu 14 [2] Tryz.func54 rfl fun Q b j=>qA fun e c=>Au (.string (ByteArray.mk #[])) (Asa c fun f d=>Ma ((r,oC #[pV r,vb] 124)::[]) [0,1,2,3,4,5,6,7,8,9,10,11] (by kernel_rfl) rfl rfl (Cf 0 (zT 1 11) rfl sC rfl (Yld.o (Ah (v:=pV r) rfl)) (Cf 1 (zT 2 10) rfl sC rfl (Yld.o (Ck rfl)) (Cf 2 (zT 3 9) rfl sC rfl (Yld.o (Gp Cdz rfl (Ab Ceh))) (Cf 3 (zT 4 8) rfl sC rfl (Em (v:=vb) ⟨_,Cdx,rfl⟩ rfl mC rfl) (Cf 5 (zR o1 [4,1,1,6]) rfl sC rfl (Yld.o (Ah (v:=pV r) rfl)) (Cf 6 (zR o1 [4,1,2,5]) rfl sC rfl (Yld.o (Ck rfl)) (Cf 7 (zR o1 [4,1,3,4]) rfl sC rfl (Yld.o (Gp Cdz rfl (Ab Ceh))) (Cf 8 (zR o1 [4,1,4,3]) rfl sC rfl (Em (v:=vb) ⟨_,Cdx,rfl⟩ rfl mC rfl) ?_)))))))));have g:=Grow.len hb;refine Cf 9 (zR o1 [4,1,5,2]) rfl sC rfl (Yld.o (Ajw (el':=5) Cdx rfl hb)) (Cj 4 (zT 10 2) rfl sC rfl (Yld.o (Ayz hb hne rfl)) sC (Xx Asc (Aha 10 (zT 11 1) rfl rfl (Aof (Z:=(r,oC #[pV r,vb] 124)::Z) (gr:=gb) (v:=vb) (xs:=xs) Tryz.underlying205 hne hb rfl rfl (fun _ _ h=>Caw h) fun i a=>⟨sC,?_⟩))));refine Cj 11 (zT 12 0) rfl sC rfl (Yld.o (Cp (v:=.string (bs xs)) rfl)) sC (Ow rfl (kk d ?_));refine Aj (drops a) (Aj Ghost.drop (Aq (b (rT (.string (bs xs)) ?_))));rfl
end
section
section
variable{e:Env}{Y:Ro}{xs:Array Operand}{vs:Array Value}{tys:Array TypeId}{ty:TypeId}{f:FuncId}{fn:Func}{G:Array Value->Sem Value}
theorem Bvf{P Z Q}(hf:P.funcs[f]?=some fn)(hn:(fn.name == "runtime.NumGoroutine")=false)(hb:fn.body.isNone=true)(hx0:Extern.findNext fn=none)(he:Extern.find fn=some G)(h:wpS P Y (G vs) Z (fun v Z'=>Q (.value v) Z')):wpS P Y (callFunc f vs) Z Q:=by unfold callFunc;show wpS P Y ((program).bind _) Z Q;rw[Ad];show wpS P Y (match P.funcs[f]? with|none=>_|some fn=>_) Z Q;rw[hf];simp only[hn,hb];show wpS P Y ((Go.mark (.extern f)).bind _) Z Q;rw[Ad];refine⟨trivial,?_⟩;simp only[hx0,he];show wpS P Y ((G vs).bind fun v=>Sem.pure (Next.value v)) Z Q;rw[Ad];exact h
theorem Bkw(e:Env)(hx:xs.map (Af e)=vs)(d:Option Tmp)(pos:String)(af:Array Edge)(g:Option (Nat×Bool)):execOp (Af e) ⟨d,.call ⟨.value (.func f),xs,tys⟩,ty,pos,af,g⟩=callFunc f vs:=by show callFunc f ((#[]++xs.map (Af e)) ++ #[])=_;rw[Aea,Ack,hx]
end
end
section
theorem Bzz:Fw Tryz.prog 124 (.agg #[.pointer none,.slice none 0 0]):=⟨_,Ab Cex,rfl⟩
def smL:List UInt8:=(List.append (List.append [48,48,48,49,48,50,48,51,48,52,48,53,48,54,48,55,48,56,48,57,49,48,49,49,49,50,49,51,49,52,49,53,49,54,49,55,49,56,49,57,50,48,50,49,50,50,50,51,50,52] [50,53,50,54,50,55,50,56,50,57,51,48,51,49,51,50,51,51,51,52,51,53,51,54,51,55,51,56,51,57,52,48,52,49,52,50,52,51,52,52,52,53,52,54,52,55,52,56,52,57]) (List.append [53,48,53,49,53,50,53,51,53,52,53,53,53,54,53,55,53,56,53,57,54,48,54,49,54,50,54,51,54,52,54,53,54,54,54,55,54,56,54,57,55,48,55,49,55,50,55,51,55,52] [55,53,55,54,55,55,55,56,55,57,56,48,56,49,56,50,56,51,56,52,56,53,56,54,56,55,56,56,56,57,57,48,57,49,57,50,57,51,57,52,57,53,57,54,57,55,57,56,57,57]))
theorem Buu{n}(h0:10<=n)(h:n<100):(smL.take (n*2+2)).drop (n*2)=Ox n:=by
 have key:(List.range 100).all (fun n=>decide (n<10)||((smL.take (n*2+2)).drop (n*2)==Ox n))=true:=by decide +kernel
 have:=Te.1 key n (Bdv.2 h);rw[Ji (by omega),Bool.false_or]at this;exact eq_of_beq this
theorem But{n}(h:n<10):((([48,49,50,51,52,53,54,55,56,57,97,98,99,100,101,102,103,104,105,106,107,108,109,110,111,112,113,114,115,116,117,118,119,120,121,122]:List UInt8).take (n+1)).drop n)=Ox n:=by
 have key:(List.range 10).all (fun n=>((([48,49,50,51,52,53,54,55,56,57,97,98,99,100,101,102,103,104,105,106,107,108,109,110,111,112,113,114,115,116,117,118,119,120,121,122]:List UInt8).take (n+1)).drop n)==Ox n)=true:=by decide +kernel
 exact eq_of_beq (Te.1 key n (Bdv.2 h))
end
section
def bw(ws:List (List UInt8)):List ByteArray:=ws.map bs
section
variable{l:Lab}{m:Market}
end
end
section
theorem Bse:∀{n:Nat} {d:List UInt8},d.all Avr=true->d.length<=n->Azv d<10^n
 | n,d=>by
  intro ha hl;have key:∀(l:List UInt8) (a k:Nat),l.all Avr=true->a<10^k->l.foldl (fun n c=>10*n+(c.toNat-48)) a<10^(k+l.length):=by
   intro l;induction l with
   | nil=>intro a k _ h;simpa using h
   | cons c l ih =>
    intro a k ha h;simp only[Aqo,Pc]at ha;have hc:c.toNat-48<=9:=by have:=ha.1;unfold Avr at this;simp at this;omega
    have:=ih (10*a+(c.toNat-48)) (k+1) ha.2 (by rw[Aqr];omega);rw[Axd,Gb,show k+(l.length+1)=k+1+l.length by omega];exact this
  have b:=key d 0 0 ha (by decide);rw[Qz]at b;exact Pa b (Axa (by decide) hl)
def Aiz(s:List UInt8):Int:=if Agz s then Cba s else 0
theorem Bem{s}:-1000000000<Aiz s/\Aiz s<1000000000:=by
 unfold Aiz;split
 ·rename_i h;have hh:=h;unfold Agz at h;simp only[Pc,decide_eq_true_eq]at h;have:=Bse (n:=9) h.1.2 h.1.1.2;unfold Cba;split<;>omega
 ·omega
end
section
theorem Amc{n p q}(h:∀i,i<n->p i=q i):Cl n p=Cl n q:=by
 rcases Ft (n:=n) (p:=q) with⟨i,hi,hp,hj,he⟩|⟨a,he⟩
 ·rw[he];exact Fh (fun j hj'=>by rw[h j (by omega)];exact hj j hj') hi (by rw[h i hi];exact hp)
 ·rw[he];exact Ep fun j hj=>by rw[h j hj];exact a j hj
def Xl(c:UInt8)(p:List UInt8):Int:=Oi p (fun x=>x==c)
theorem Aqf{c p}:(∃i:Nat,Xl c p=(i:Int)/\i<p.length/\p[i]?=some c/\∀j,j<i->p[j]?≠some c)∨(Xl c p = -1/\∀x∈p,x≠c):=by
 unfold Xl Oi;rcases Ft (n:=p.length) (p:=atP p (fun x=>x==c)) with⟨i,hi,hp,hj,he⟩|⟨a,he⟩
 ·refine .inl ⟨i,by rw[he],hi,?_,fun j hj' hc=>?_⟩
  ·obtain⟨x,hx⟩:=Ed hi;simp only[atP,hx]at hp;rw[hx,eq_of_beq hp]
  ·have:=hj j hj';simp only[atP,hc]at this;simp at this
 ·refine .inr ⟨by rw[he],fun x hx hc=>?_⟩;obtain⟨i,hi⟩:=Bmg.1 hx;have:=a i (lZ1.1 hi).1;simp only[atP,hi,hc]at this;simp at this
theorem Bwk{p i}(h:i<p.length):p[i]?=some ((bs p)[i]!):=by show _=some ((ByteArray.mk p.toArray)[i]!);rw[Go.Lib.get!_eq,Oz,Ps h];rfl
theorem Bfx{c}:Extern.Bytes.asByte (.int .u8 (c.toNat:Int))=Sem.pure c:=by show Sem.pure ((c.toNat:Int).toNat.toUInt8)=_;rw[Yk];show Sem.pure (UInt8.ofNat c.toNat)=_;rw[UInt8.ofNat_toNat]
theorem Bsp{P Y Z p c}:wpS P Y (Extern.BytealgIndexByte.indexByte #[.string (bs p),.int .u8 (c.toNat:Int)]) Z (fun w Z'=>w = .int .i64 (Xl c p)/\Z'=Z):=by
 unfold Extern.BytealgIndexByte.indexByte;show wpS P Y ((Extern.Bytes.bytesOf (.string (bs p))).bind _) Z _;rw[Ad];show wpS P Y ((Extern.Bytes.asByte (.int .u8 (c.toNat:Int))).bind _) Z _;rw[Ad,Bfx];have e:((List.range (bs p).size).find? fun i=>(bs p)[i]! == c)=Cl p.length (atP p (fun x=>x==c)):=by
  rw[Nn];exact Amc fun i hi=>by simp only[atP,Bwk hi]
 show wpS P Y (match (List.range (bs p).size).find? fun i=>(bs p)[i]! == c with|some i=>pure (goInt i)|none=>pure (goInt (-1))) Z _;rw[e];unfold Xl Oi;cases Cl p.length (atP p (fun x=>x==c))<;>exact⟨rfl,rfl⟩
section
variable{C:Ctx}{e:Env}{ds:List Deferred}{Y:Ro}{Z:Own}{K:Value->List Deferred->Ro->Own->Prop}{rd:Option Nat}{dd:Option Tmp}
variable{ty:TypeId}{pos:String}{af:Array Edge}{g:Option (Nat×Bool)}{x y:Operand}{t:TypeId}
end
end
section
def Dp(p:List UInt8):List UInt8:=if (p.drop (p.length-1)==[10])=true then p.take (p.length-1) else p
variable{mn:Bool}{X:Frame->List Frame->Ro->Own->Cy->Prop}{Y:Ro}{Z:Own}
theorem Azj{p c}:CallsH (CX mn X) 133 #[.string (bs p),.int .u8 (c.toNat:Int)] Y Z (rP Y Z (iV (Xl c p))):=by refine Bu 8 [4] Tryz.func133 rfl fun Q a g=>qA fun e b=>Au (iV 0) (qC b fun f d=>Av (.string (bs p)) (Av (.int .u8 (c.toNat:Int)) (Bnb rfl Tryz.func164 rfl rfl rfl rfl (Cay rfl rfl) (Bsp (p:=p) (c:=c)) (Au (iV (Xl c p)) (l_k d (Aq (a (rT (iV (Xl c p)) ?_))))))));rfl
theorem Bgf{p c}:CallsH (CX mn X) 87 #[.string (bs p),.int .u8 (c.toNat:Int)] Y Z (rP Y Z (iV (Xl c p))):=by refine Bu 8 [4] Tryz.func87 rfl fun Q a g=>qA fun e b=>Au (iV 0) (qC b fun f d=>Av (.string (bs p)) (Av (.int .u8 (c.toNat:Int)) (Arv (Cw (Azj (p:=p) (c:=c)) Tryz.func133 ?_))));refine Au (iV (Xl c p)) (l_k d (Aq (a (rT (iV (Xl c p)) ?_))));rfl
end
section
section
variable{P:Program}{Y:Ro}{e:Env}{ty t t':TypeId}{x:Operand}{v:Value}{tt:TypeId}
theorem Blt{Y' Z ms}(hT:P.underlying t=some (.interface ms)){w b}(hb:(w = .nilIface/\b=true)∨∃tt v,w = .iface tt v/\b=false){Q}(h:Q b Z):wpS P Y' (Op.equal t w .nilIface) Z Q:=by show wpS P Y' ((underlying t).bind _) Z Q;rw[Ad];refine Az hT ?_;rcases hb with⟨rfl,rfl⟩|⟨tt,v,rfl,rfl⟩<;>exact h
theorem Asj{ms w b}(hT:P.underlying t=some (.interface ms))(hb:(w = .nilIface/\b=true)∨∃tt v,w = .iface tt v/\b=false)(hx:Af e x=w):Yld P Y e (.binOp .eql t x (.const .nilIface) t') ty (.bool b) :=
 Mt (s:=(do eqGuard .eql t x (.const .nilIface) (Af e x) .nilIface;binOp .eql t (Af e x) .nilIface)) (fun _ _ _ _=>rfl) fun Y' Z _=>by
  rw[hx];have hg:eqGuard .eql t x (.const .nilIface) w .nilIface=pure ():=by
   rcases hb with⟨rfl,-⟩|⟨tt,v,rfl,-⟩
   ·unfold eqGuard;simp
   ·rfl
  rw[hg];have a:binOp .eql t w .nilIface=(Op.equal t w .nilIface).bind fun b=>Sem.pure (.bool b):=by
   rcases hb with⟨rfl,-⟩|⟨tt,v,rfl,-⟩<;>rfl
  show wpS P Y' (binOp .eql t w .nilIface) Z _;rw[a,Ad];exact Blt hT hb ⟨rfl,rfl⟩
end
end
section
def Bjn(C:Ctx)(b:FB)(n:Nat)(c:Code)(Q:Hu)(e:Env)(ds:List Deferred)(Y:Ro)(Z:Own):Prop :=
 ∀tm k cs,EnvOf n tm e->GoesH C (fun fr cs' Y' Z'=>cs'=cs/\∃ex tm' e' ds' todo,EnvOf n tm' e'/\Q ex e' ds' Y' Z'/\Pl ex k todo/\fr=Fr b tm' ds' todo) (Fr b tm ds (.code c :: .inLoop c::k)) cs Y Z
section
variable{C:Ctx}{b:FB}{n:Nat}{Q:Hu}{e:Env}{ds:List Deferred}{Y:Ro}{Z:Own}{c:Code}
theorem Bjg(h:Bjn C b n c Q e ds Y Z):WpC C b n (.loop c) Q e ds Y Z:=fun tm k cs ht =>
 Eh (fr':=Fr b tm ds (.code c :: .inLoop c::k)) (cs':=cs) (fun W=>by simp[Conc.G,stepG,stepG.exec,Fr]) ((h tm k cs ht).mono fun _ _ _ _ hs=>.inl hs)
theorem We(h:WpC C b n c (Zo (fun e ds Y Z=>Bjn C b n c Q e ds Y Z) Q) e ds Y Z):Bjn C b n c Q e ds Y Z:=by
 intro tm k cs ht;refine(h.stops tm (.inLoop c::k) cs ht).bind ?_;rintro _ _ Y' Z' ⟨rfl,ex,tm',e',ds',g,a,d,f,rfl⟩;cases ex with
 | normal =>
  cases f;exact Eh (fr':=Fr b tm' ds' (.code c :: .inLoop c::k)) (fun W=>by simp[Conc.G,stepG,stepG.exec,Fr]) (d tm' k _ a)
 | exit id=>exact .stop ⟨rfl,.exit id,tm',e',ds',g,a,d,He (by simp) (fun _=>rfl) f,rfl⟩
 | ret=>exact .stop ⟨rfl,.ret,tm',e',ds',g,a,d,He (by simp) (fun _=>rfl) f,rfl⟩
end
end
section
def Bls:TypeDesc->Bool
 | .interface _=>true
 | _=>false
section
variable{P:Program}{Y:Ro}{e:Env}{ty t t':TypeId}{x y:Operand}{v:Value}
theorem Bbz{d}(hT:P.underlying t=some d)(hd:Bls d=false)(hx:Af e x=v):Yld P Y e (.makeInterface t x) ty (.iface t v) :=
 Mt (s:=Instr.makeInterface t (Af e x)) (fun _ _ _ _=>rfl) fun Y' Z _=>by
 rw[hx];show wpS P Y' ((underlying t).bind _) Z _;rw[Ad];refine Az hT ?_;cases d<;>first|exact⟨rfl,rfl⟩|cases hd
theorem Bji{d}(hT:P.underlying t'=some d)(hd:Bls d=false)(hx:Af e x = .iface t' v):Yld P Y e (.typeAssert x t t' true) ty (.tuple #[v,.bool true]) :=
 Mt (s:=Instr.typeAssert (Af e x) t t' true) (fun _ _ _ _=>rfl) fun Y' Z _=>by
 rw[hx];show wpS P Y' ((underlying t').bind _) Z _;rw[Ad];refine Az hT ?_;cases d<;>first|(simp only[if_true];exact⟨rfl,rfl⟩)|cases hd
end
section
variable{C:Ctx}{e:Env}{ds:List Deferred}{Y:Ro}{Z:Own}{K:Value->List Deferred->Ro->Own->Prop}{rd:Option Nat}{dd:Option Tmp}
variable{ty:TypeId}{pos:String}{af:Array Edge}{g:Option (Nat×Bool)}{x:Operand}{t:TypeId}{v v':Value}
end
end
section
def ObjsO(τ:Own):Prop:=∀x∈τ,∃r o,x=(r,Res.obj o)
theorem Aem{r o}:ObjsO [(r,Res.obj o)]:=fun x hx=>by rw[Nh.1 hx];exact⟨_,_,rfl⟩
theorem ObjsO.add{τ a b o o'}(h:ObjsO τ):ObjsO (τ++[(a,Res.obj o),(b,Res.obj o')]):=fun x hx=>by
 rcases Gv.1 hx with h1|h1
 ·exact h x h1
 ·rcases lZ8.1 h1 with rfl|h2
  ·exact⟨_,_,rfl⟩
  ·rw[Nh.1 h2];exact⟨_,_,rfl⟩
theorem Axn{τ Z}(h:ObjsO τ)(hn:NoRecv Z):NoRecv (τ++Z):=by
 induction τ with
 | nil=>exact hn
 | cons x τ ih =>
  obtain⟨r,o,rfl⟩:=h x mC;exact Jb (ih fun y hy=>h y (lZ0 _ hy))
theorem Aze{pfx τ:Own}{a b:Nat×Res}:(pfx++[a,b]++τ)[pfx.length]?=some a:=by simp
theorem Bfd{pfx τ:Own}{a b a':Nat×Res}:(pfx++[a,b]++τ).set pfx.length a'=pfx++[a',b]++τ:=by rw[lZ9,List.set_append_right _ _ (Ib _),Aww,lZ9];rfl
theorem Aso{pfx τ:Own}{a b:Nat×Res}:pfx++a::b::τ=pfx++[a,b]++τ:=by simp
section
variable{mn:Bool}{X:Frame->List Frame->Ro->Own->Cy->Prop}{b:FB}{n:Nat}{e:Env}{ds:List Deferred}{Y:Ro}{Z:Own}
end
def Eo(acc:List UInt8):List UInt8->List (List UInt8)
 | []=>if acc=[] then [] else [acc]
 | x::r=>if x=10 then (acc++[10])::Eo [] r else Eo (acc++[x]) r
theorem Aqw:∀{s acc:List UInt8},(∀x∈s,x≠10)->Eo acc s=if acc++s=[] then [] else [acc++s]
 | [],acc,_=>by unfold Eo;rw[Ui]
 | x::r,acc,h=>by
  unfold Eo;rw[if_neg (h x mC),Aqw fun y hy=>h y (lZ0 _ hy)];simp
theorem Aqv:∀{m:Nat} {s acc:List UInt8},s[m]?=some 10->(∀j,j<m->s[j]?≠some 10)->Eo acc s=(acc++s.take (m+1))::Eo [] (s.drop (m+1))
 | _,[],_,h,_=>by cases h
 | 0,x::r,acc,h,_=>by
  obtain rfl:x=10:=by simpa using h
  conv=>lhs;unfold Eo
  rw[if_pos rfl];rfl
 | m+1,x::r,acc,h,hj=>by
  have hx:x≠10:=fun e=>hj 0 (by omega) (by rw[e];rfl)
  conv=>lhs;unfold Eo
  rw[if_neg hx,Aqv (m:=m) (s:=r) (by simpa using h) (fun j hjm=>by have:=hj (j+1) (by omega);simpa using this)];simp
theorem Axf{s m}(h:s[m]?=some 10)(hj:∀j,j<m->s[j]?≠some 10):Eo [] s=((s.take (m+1)).drop 0)::Eo [] ((s.take s.length).drop (m+1)):=by rw[Aqv h hj,Agm,Agn,Apa]
theorem Axe{s}(h:∀x∈s,x≠10)(hs:0<s.length):Eo [] s=[s]:=by rw[Aqw h,Agn,if_neg];intro e;rw[e]at hs;cases hs
theorem Agp:∀{s acc:List UInt8},∀w∈Eo acc s,w.length<=acc.length+s.length
 | [],acc,w,hw=>by
  unfold Eo at hw;split at hw
  ·cases hw
  ·rw[Nh.1 hw];simp
 | x::r,acc,w,hw=>by
  unfold Eo at hw;split at hw
  ·rcases lZ8.1 hw with rfl|h1
   ·simp
   ·have:=Agp w h1;simp only[Nx,Gb]at *;omega
  ·have:=Agp w hw;simp only[lZ4,Gb,Nx]at *;omega
end
section
theorem Bho{s}(h:decide (Xl 10 s>=0)=true):∃m:Nat,Xl 10 s=(m:Int)/\m<s.length/\Eo [] s=((s.take (m+1)).drop 0)::Eo [] ((s.take s.length).drop (m+1)):=by
 rcases Aqf (c:=10) (p:=s) with⟨m,a,b,d,e⟩|⟨a,_⟩
 ·exact⟨m,a,b,Axf d e⟩
 ·have:=lZ3 h;omega
theorem Bhn{s}(h:decide (Xl 10 s>=0)=false)(hs:0<s.length):Eo [] s=[s]:=by
 rcases Aqf (c:=10) (p:=s) with⟨m,a,b,d,e⟩|⟨_,a⟩
 ·have:=lZ2 h;omega
 ·exact Axe a hs
theorem Bkg{mn X Y Z t}:CallsH (CX mn X) 56 #[.string (bs t)] Y Z (fun w Y' Z'=>Y'=Y/\∃k:Nat,w = .func (.func 86) #[] #[pV k]/\Z'=(k,oC #[.string (bs t)] 9)::Z):=by refine Bu 4 [2] Tryz.func56 rfl fun Q b g=>qA fun e c=>Arv (Nk (v:=.string (bs t)) rfl fun a=>?_);refine Au .nilFunc (qC c fun f d=>l_v (Il (fn:=.func 86) (caps:=[.tmp 1]) (vs:=[pV a]) ⟨rfl,trivial⟩) (Au (.func (.func 86) #[] #[pV a]) (l_k d (Aq (b ⟨rfl,_,rfl,rfl⟩)))))
theorem Brs{mn:Bool}{X:Frame->List Frame->Ro->Own->Cy->Prop}{Y:Ro}{Z:Own}{n:Nat}(hn:n<100):CallsH (CX mn X) 160 #[iV n] Y Z (rP Y Z (.string (bs (Ox n)))):=by
 refine Bu 15 [2] Tryz.func160 rfl fun Q b v=>qA fun j c=>Au (.string (ByteArray.mk #[])) (qE c fun k m d e=>Av (iV n) (l_v (Da rfl rfl) (l_k e (Bp (t:=decide ((n:Int)<10)) rfl (fun a=>?_) (fun a=>?_)))))
 ·have i:=lZ3 a;refine qA fun q f=>Av (iV n) (Av (iV n) (l_v (Fp (((n+1):Nat):Int)) (l_v (Bjl (p:=bZ0) (l:=n) (h:=n+1) Cdn rfl (.inr ⟨_,rfl,rfl⟩) (.inr ⟨_,rfl,rfl⟩) (by first|omega|(show _<=36;omega)|(show _<=200;omega)) (by first|omega|(show _<=36;omega)|(show _<=200;omega))) (Au (.string (bs (((bZ0).take (n+1)).drop n))) (l_k f (Aq (b ⟨rfl,rfl,eT (.string (bs (((bZ0).take (n+1)).drop n))) ?_⟩)))))));rw[But (by omega)]
 have i:=lZ2 a;refine Al (kk d ?_);refine qA fun u g=>Av (iV n) (l_v (Wq rfl rfl (z:=(((n*2):Nat):Int)) wrE) (Av (iV n) (l_v (Wq rfl rfl (z:=(((n*2):Nat):Int)) wrE) (l_v (Fp ((((n*2)+2):Nat):Int)) (l_v (Bjl (p:=smL) (l:=n*2) (h:=(n*2)+2) Cdn rfl (.inr ⟨_,rfl,rfl⟩) (.inr ⟨_,rfl,rfl⟩) (by first|omega|(show _<=36;omega)|(show _<=200;omega)) (by first|omega|(show _<=36;omega)|(show _<=200;omega))) (Au (.string (bs ((smL.take ((n*2)+2)).drop (n*2)))) (l_k g (Aq (b ⟨rfl,rfl,eT (.string (bs ((smL.take ((n*2)+2)).drop (n*2)))) ?_⟩)))))))));rw[Buu (by omega) (by omega)]
theorem Bge{mn:Bool}{X:Frame->List Frame->Ro->Own->Cy->Prop}{Y:Ro}{Z:Own}{n:Nat}(h1:n<100):CallsH (CX mn X) 132 #[iV n,iV 10] Y Z (rP Y Z (.string (bs (Ox n)))):=by refine Bu 54 [4] Tryz.func132 rfl fun Q a m=>qA fun f b=>Au (.string (ByteArray.mk #[])) (qE b fun g h p c=>Av (iV 10) (l_v (Ek rfl rfl) (l_k c (Co rfl rfl (qD fun i j q d=>Av (iV n) (l_v (Uz rfl rfl) (Av (.bool (decide (0<=(n:Int)))) (l_M (iV n) (gY rfl (Qx (by omega))) rfl (Aa (gY rfl (Qx (by omega))) (Da rfl rfl) (l_v (Bt rfl (Qx (by omega)) (v:=.bool (decide ((n:Int)<100))) rfl) (l_k d (Co rfl (Qx (by omega)) (qA fun k e=>Av (iV n) (Arv (Cw (Brs (n:=n) (by omega)) Tryz.func160 ?_)))))))))))))));refine Au (.string (bs (Ox n))) (l_k e (Aq (a (rT (.string (bs (Ox n))) ?_))));rfl
def pcC(c:UInt8):Bool:=decide (32<=c.toNat)&&decide (c.toNat<=126)
def Oc(p:List UInt8):Bool:=p.all pcC
def Bov(p:List UInt8)(j:Nat):Bool:=match p[j]? with|some c=>pcC c|none=>true
theorem Cbe{p:List UInt8}{i:Nat}{c:UInt8}(h:p[i]?=some c)(h1:32<=c.toNat)(h2:c.toNat<=126):Bov p i=true:=by unfold Bov;rw[h];simp[pcC,h1,h2]
theorem Bua{p:List UInt8}(h:∀j,j<p.length->Bov p j=true):Oc p=true:=by unfold Oc;rw[Te];intro c hc;obtain⟨j,hj⟩:=Se hc;have:=h j (lZ1.1 hj).1;unfold Bov at this;rw[hj]at this;exact this
theorem Bex{p:List UInt8}{i:Nat}{c:UInt8}(h:p[i]?=some c)(h1:c.toNat<32∨126<c.toNat):Oc p=false:=by
 cases hp:Oc p with
 | false=>rfl
 | true =>
  have:=Te.1 hp c (lZ6 h);simp only[pcC,Pc,decide_eq_true_eq]at this;omega
def Ajg:List UInt8->Nat->Nat
 | [],_=>0
 | c::p,i=>c.toNat*(i%96+1)+Ajg p (i+1)
theorem Bqc(p q:List UInt8)(i:Nat):Ajg (p++q) i=Ajg p i+Ajg q (i+p.length):=by
 induction p generalizing i with
 | nil=>simp[Ajg]
 | cons c p ih =>
  rw[Sz,Ajg,Ajg,ih,Gb,show i+1+p.length=i+(p.length+1) by omega];omega
theorem Biu{p:List UInt8}{i:Nat}{c:UInt8}(h:p[i]?=some c):Ajg (p.take (i+1)) 0=Ajg (p.take i) 0+c.toNat*(i%96+1):=by
 rw[Ym,h,Bqc];have:(p.take i).length=i:=by rw[Lo];have:=(lZ1.1 h).1;omega
 simp[Ajg,this]
theorem Btk(c:UInt8)(i:Nat):c.toNat*(i%96+1)<=24480:=by
 have d:=c.toNat_lt;have b:i%96+1<=96:=by omega
 calc c.toNat*(i%96+1)<=255*96:=Anc (by omega) b
  _=24480:=rfl
def Ln(n:Nat)(p:List UInt8):Nat:=(7*n+Ajg p 0)%97
theorem Bry(n:Nat)(p:List UInt8):Ln n p<97:=Aqu _ (by omega)
def Cam(c:Nat):List UInt8:=[UInt8.ofNat (48+c/10),UInt8.ofNat (48+c%10)]
def Wd(n:Nat)(p:List UInt8):List UInt8:=p++[32,35]++Cam (Ln n p)++[10]
def Afs(p:List UInt8):Bool:=p.drop (p.length-1)==[10]
def Vv(s:List UInt8):Bool:=s.take 2==[32,35]&&(s.drop 2).all Avr
def ckV(s:List UInt8):Nat:=match s with|[_,_,a,b]=>(a.toNat-48)*10+(b.toNat-48)|_=>0
def ckR(s:List UInt8):Nat:=if Vv s=true then ckV s else 0
end
section
variable{mn:Bool}{X:Frame->List Frame->Ro->Own->Cy->Prop}{Y:Ro}{Z:Own}
theorem Ri{n low high:Int} :CallsH (CX mn X) 69 #[iV n,iV low,iV high] Y Z (rP Y Z (.bool (inR n low high))):=by
 refine Bu 15 [6] Cet rfl fun Q b h=>qA fun f d=>Au bF (qC d fun g c=>Av (iV low) (Av (iV n) (l_v (Uz rfl rfl) (Av (.bool (decide (low<=n))) (Cn (decide (low<=n)) (fun a=>?_) (fun a=>?_))))))
 ·have e:=lZ3 a;refine l_M (iV n) (qF a) rfl (l_M (iV high) (qF a) rfl (Aa (qF a) (Uz rfl rfl) (l_v (Bt rfl a (v:=.bool (decide (n<=high))) rfl) (Au (.bool (decide (n<=high))) (l_k c (Aq (b (rT (.bool (decide (n<=high))) ?_))))))));simp only[inR,a,bZl]
 have e:=lZ2 a;refine Ap (gN rfl a) (Ap (gN rfl a) (Ap (gN rfl a) (l_v (Bn rfl a (v:=bF) rfl) (Au bF (l_k c (Aq (b (rT bF ?_))))))));simp only[inR,a,bZl]
theorem Bgj{c:UInt8} :CallsH (CX mn X) 82 #[.int .u8 (c.toNat:Int)] Y Z (rP Y Z (.bool (Ov (c.toNat:Int)))):=by
 refine Bu 21 [2] Tryz.func82 rfl fun Q h z=>qA fun x j=>Au bF (qC j fun y i=>Av (.int .u8 (c.toNat:Int)) (l_v (Da rfl rfl) (Av (.bool (decide ((c.toNat:Int)<97))) (Cn (decide ((c.toNat:Int)<97)) (fun b=>?_) (fun b=>?_)))))
 ·have k:=lZ3 b;refine Ap (gN rfl b) (Ap (gN rfl b) (l_v (Bt rfl b (v:=bT) rfl) (Av bT (l_M (.int .u8 (c.toNat:Int)) (gY rfl rfl) rfl (Aa (gY rfl rfl) (Da rfl rfl) (l_M (.bool (decide ((c.toNat:Int)<48))) (gY rfl rfl) rfl (Cn (decide ((c.toNat:Int)<48)) (fun d=>?_) (fun d=>?_))))))))
  ·have m:=lZ3 d;refine Ap (gN rfl d) (Ap (gN rfl d) (Aa (gY rfl rfl) (Bt rfl d (v:=bT) rfl) (l_v (Bt rfl rfl (v:=bT) rfl) (Av bT (l_M (.int .u8 (c.toNat:Int)) (gY rfl rfl) rfl (Aa (gY rfl rfl) (Dg rfl rfl) (l_v (Bt rfl rfl (v:=.bool ((c.toNat:Int) != 45)) rfl) (Au (.bool ((c.toNat:Int) != 45)) (l_k i (Aq (h (rT (.bool ((c.toNat:Int) != 45)) ?_))))))))))));simp only[Ov,b,d,bZl]
  have m:=lZ2 d;refine l_M (.int .u8 (c.toNat:Int)) (qF d) rfl (Aa (qF d) (Gl (p:=(c.toNat:Int)) (q:=57) rfl rfl) (Aa (gY rfl rfl) (Bn rfl d (v:=.bool (decide ((c.toNat:Int)>57))) rfl) (l_v (Bt rfl rfl (v:=.bool (decide ((c.toNat:Int)>57))) rfl) (Av (.bool (decide ((c.toNat:Int)>57))) (Cn (decide ((c.toNat:Int)>57)) (fun f=>?_) (fun f=>?_))))))
  ·have n:=lZ3 f;refine l_M (.int .u8 (c.toNat:Int)) (qF f) rfl (Aa (qF f) (Dg rfl rfl) (l_v (Bt rfl f (v:=.bool ((c.toNat:Int) != 45)) rfl) (Au (.bool ((c.toNat:Int) != 45)) (l_k i (Aq (h (rT (.bool ((c.toNat:Int) != 45)) ?_)))))));simp only[Ov,b,d,f,bZl]
  have n:=lZ2 f;refine Ap (gN rfl f) (Ap (gN rfl f) (l_v (Bn rfl f (v:=bF) rfl) (Au bF (l_k i (Aq (h (rT bF ?_)))))));simp only[Ov,b,d,f,bZl]
 have k:=lZ2 b;refine l_M (.int .u8 (c.toNat:Int)) (qF b) rfl (Aa (qF b) (Gl (p:=(c.toNat:Int)) (q:=122) rfl rfl) (l_v (Bn rfl b (v:=.bool (decide ((c.toNat:Int)>122))) rfl) (Av (.bool (decide ((c.toNat:Int)>122))) (Cn (decide ((c.toNat:Int)>122)) (fun a=>?_) (fun a=>?_)))))
 ·have t:=lZ3 a;refine l_M (.int .u8 (c.toNat:Int)) (qF a) rfl (Aa (qF a) (Da rfl rfl) (l_M (.bool (decide ((c.toNat:Int)<48))) (qF a) rfl (Cn (decide ((c.toNat:Int)<48)) (fun e=>?_) (fun e=>?_))))
  ·have u:=lZ3 e;refine Ap (gN rfl e) (Ap (gN rfl e) (Aa (qF a) (Bt rfl e (v:=bT) rfl) (l_v (Bt rfl a (v:=bT) rfl) (Av bT (l_M (.int .u8 (c.toNat:Int)) (gY rfl rfl) rfl (Aa (gY rfl rfl) (Dg rfl rfl) (l_v (Bt rfl rfl (v:=.bool ((c.toNat:Int) != 45)) rfl) (Au (.bool ((c.toNat:Int) != 45)) (l_k i (Aq (h (rT (.bool ((c.toNat:Int) != 45)) ?_))))))))))));simp only[Ov,b,a,e,bZl]
  have u:=lZ2 e;refine l_M (.int .u8 (c.toNat:Int)) (qF e) rfl (Aa (qF e) (Gl (p:=(c.toNat:Int)) (q:=57) rfl rfl) (Aa (qF a) (Bn rfl e (v:=.bool (decide ((c.toNat:Int)>57))) rfl) (l_v (Bt rfl a (v:=.bool (decide ((c.toNat:Int)>57))) rfl) (Av (.bool (decide ((c.toNat:Int)>57))) (Cn (decide ((c.toNat:Int)>57)) (fun g=>?_) (fun g=>?_))))))
  ·have w:=lZ3 g;refine l_M (.int .u8 (c.toNat:Int)) (qF g) rfl (Aa (qF g) (Dg rfl rfl) (l_v (Bt rfl g (v:=.bool ((c.toNat:Int) != 45)) rfl) (Au (.bool ((c.toNat:Int) != 45)) (l_k i (Aq (h (rT (.bool ((c.toNat:Int) != 45)) ?_)))))));simp only[Ov,b,a,e,g,bZl]
  have w:=lZ2 g;refine Ap (gN rfl g) (Ap (gN rfl g) (l_v (Bn rfl g (v:=bF) rfl) (Au bF (l_k i (Aq (h (rT bF ?_)))))));simp only[Ov,b,a,e,g,bZl]
 have t:=lZ2 a;refine Ap (gN rfl a) (Ap (gN rfl a) (Ap (gN rfl a) (Ap (Jf rfl rfl rfl) (Ap (Jf rfl rfl rfl) (Ap (gN rfl a) (l_v (Bn rfl a (v:=bF) rfl) (Av bF (Ap (gN rfl rfl) (Ap (gN rfl rfl) (l_v (Bn rfl rfl (v:=bF) rfl) (Au bF (l_k i (Aq (h (rT bF ?_)))))))))))))));simp only[Ov,b,a,bZl]
theorem Adm{s:ByteArray}(hs:s.size<2^60):CallsH (CX mn X) 49 #[.string s] Y Z (rP Y Z (.bool (Hg s))):=by
 refine Bu 21 [2] Cff rfl fun Q h U=>qA fun J w=>Au bF (qE w fun N O D j=>Av (.string s) (l_v (Afz Cdn (s:=s) rfl) (Arv (Bm (vs:=[iV (s.size:Int),iV 1,iV 14]) (v:=.bool (inR (s.size:Int) 1 14)) Ri Cet rfl rfl ⟨rfl,rfl,rfl,trivial⟩ ?_))));refine l_v (Iy rfl) (Av (.bool (!(inR (s.size:Int) 1 14))) (Cn (!(inR (s.size:Int) 1 14)) (fun a=>?_) (fun a=>?_)))
 ·have k:=not_eq_t a;have V:=Aic.1 k;refine Ap (gN rfl a) (Ap (gN rfl a) (Ap (gN rfl a) (l_v (Bt rfl a (v:=bT) rfl) (Av bT (Ap (gN rfl rfl) (Ap (gN rfl rfl) (Ap (gN rfl rfl) (l_v (Bt rfl rfl (v:=bT) rfl) (l_k j (Co rfl rfl (qA fun P E=>Au bF (l_k E (Aq (h (rT bF ?_)))))))))))))));simp only[Hg,Qb,a,k,bZl]
 have g:=Ha a;have W:=Fz.1 g;refine l_M (.string s) (qF a) rfl ?_;obtain⟨d,f⟩:=Alc (s:=s) (i:=0) (by omega);refine Aa (qF a) (Ace 0 d Cdn rfl (q:=0) rfl rfl f) (Aa (qF a) (Da rfl rfl) (l_v (Bn rfl a (v:=.bool (decide ((d.toNat:Int)<97))) rfl) (Av (.bool (decide ((d.toNat:Int)<97))) (Cn (decide ((d.toNat:Int)<97)) (fun b=>?_) (fun b=>?_)))))
 ·have H:=lZ3 b;refine Ap (gN rfl b) (Ap (gN rfl b) (Ap (gN rfl b) (l_v (Bt rfl b (v:=bT) rfl) (l_k j (Co rfl rfl (qA fun K y=>Au bF (l_k y (Aq (h (rT bF ?_))))))))));simp only[Hg,Qb,f,a,g,b,bZl]
 have H:=lZ2 b;refine l_M (.string s) (qF b) rfl (Aa (qF b) (Ace 0 d Cdn rfl (q:=0) rfl rfl f) (Aa (qF b) (Gl (p:=(d.toNat:Int)) (q:=122) rfl rfl) (l_v (Bn rfl b (v:=.bool (decide ((d.toNat:Int)>122))) rfl) (l_k j (Bp (t:=decide ((d.toNat:Int)>122)) rfl (fun e=>?_) (fun e=>?_))))))
 ·have G:=lZ3 e;refine qA fun L z=>Au bF (l_k z (Aq (h (rT bF ?_))));simp only[Hg,Qb,f,a,g,b,e,bZl]
 have G:=lZ2 e;refine Al (kk D ?_);refine qA fun M B=>Av (.string s) (Arv (Amd (s:=s) Cdn Cdx Cdy rfl (by omega) fun C n R YQ T m u=>?_));refine Alh m u (by omega) fun ZQ F I=>Arv (Bm (vs:=[.slice (some ⟨C,0,none⟩) s.size n,.func (.func 82) #[] #[]]) (v:=.bool (s.data.toList.any (fun c:UInt8=>Ov (c.toNat:Int)))) (Ta I (⟨82,Tryz.f82,[],rfl,Tryz.func82,rfl,rfl,fun mn X Y Z v x hv=>by rw[Uq.1 hv];exact Bgj⟩:Su (.func (.func 82) #[] #[]) (fun c:UInt8=>Ov (c.toNat:Int)))) Tryz.func81 rfl rfl ⟨rfl,rfl,trivial⟩ ?_);refine l_v (Iy rfl) (Au (.bool (!(s.data.toList.any (fun c:UInt8=>Ov (c.toNat:Int))))) (l_k B (Aj (Cfq F) (Aq (h ⟨rfl,rfl,eT (.bool (!(s.data.toList.any (fun c:UInt8=>Ov (c.toNat:Int))))) ?_⟩)))));rw[Akl,Bool.not_not];simp only[Hg,Qb,f,a,g,b,e,bZl]
theorem Bcj{s:List UInt8}(hb:s.length<=60000):CallsH (CX mn X) 53 #[.string (bs s)] Y Z (rP Y Z (.bool (Oc s))):=by
 refine Bu 20 [2] Tryz.func53 rfl fun Q k a0=>qA fun M x=>Au bF (qE x fun T U D E=>Av (.string (bs s)) (l_v (Vs Cdn (p:=s) rfl) (Av (iV 0) (l_k E (Ao (Cc (fun mm ee dd Y' Z'=>∃(i:Nat),(s.length-i)=mm/\[]=dd/\Y=Y'/\Z=Z'/\ee 0=(.string (bs s))/\ee 5=(iV (s.length:Int))/\ee 6=iV i/\(i<=s.length)/\(∀j,j<i->Bov s j=true)/\True) (m:=_) ⟨0,rfl,rfl,rfl,rfl,rfl,rfl,rfl,Hn _,fun j h=>absurd h (Uk _),trivial⟩ ?_))))));rintro m4 e4 _ _ _ ⟨i,rfl,rfl,rfl,rfl,f,n,g,a2,w,_⟩;refine qA fun V F=>l_v (Da g n) (Asa F fun W G=>Bp (t:=decide ((i:Int)<(s.length:Int))) rfl (fun e=>?_) (fun e=>?_))
 ·have L:=lZ3 e;refine Al (kk G ?_);refine Ai fun YQ H=>Ao (qA fun ZQ I=>l_v (Ah (v:=iV i) g) (Au (iV i) (Arx rfl rfl I fun N u=>l_v (Ah (v:=.string (bs s)) f) (Av (iV i) ?_))));obtain⟨b,c⟩:=Cap (p:=s) (i:=i) (by omega);have a1:=b.toNat_lt;refine l_v (Aus (p:=s) i b Cdn rfl (q:=(i:Int)) rfl rfl c) (l_v (Da rfl rfl) (Av (.bool (decide ((b.toNat:Int)<32))) (Cn (decide ((b.toNat:Int)<32)) (fun a=>?_) (fun a=>?_))))
  ·have J:=lZ3 a;refine Ap (gN rfl a) (Ap (gN rfl a) (Ap (gN rfl a) (Ap (gN rfl a) (l_v (Bt rfl a (v:=bT) rfl) (l_k u (Co rfl rfl (qA fun O y=>Au bF (l_k y (Aq (k (rT bF ?_)))))))))));rw[Bex c (by omega)]
  have J:=lZ2 a;refine Aa (qF a) (Ah (v:=.string (bs s)) f) (l_M (iV i) (qF a) rfl (Aa (qF a) (Aus (p:=s) i b Cdn rfl (q:=(i:Int)) rfl rfl c) (Aa (qF a) (Gl (p:=(b.toNat:Int)) (q:=126) rfl rfl) (l_v (Bn rfl a (v:=.bool (decide ((b.toNat:Int)>126))) rfl) (l_k u (Bp (t:=decide ((b.toNat:Int)>126)) rfl (fun d=>?_) (fun d=>?_)))))))
  ·have K:=lZ3 d;refine qA fun P B=>Au bF (l_k B (Aq (k (rT bF ?_))));rw[Bex c (by omega)]
  have K:=lZ2 d;refine Al (kk H ?_);refine qB (l_v (Br g rfl (z:=(((i+1):Nat):Int)) wrE) (Av (iV ((i+1):Nat)) (Ac ?_)));refine⟨_,?_,(i+1),rfl,rfl,rfl,rfl,f,n,rfl,(by omega),(Eg w (Cbe c (by omega) (by omega))),trivial⟩;omega
 have L:=lZ2 e;refine Bx (kk D ?_);refine qA fun R C=>Au bT (l_k C (Aq (k (rT bT ?_))));rw[Bua fun j hj=>w j (by omega)]
theorem Ald{n:Nat}{s:List UInt8}(hn:n<=60000)(hb:s.length<=60000):CallsH (CX mn X) 84 #[iV n,.string (bs s)] Y Z (rP Y Z (iV ((Ln n s):Nat))):=by
 refine Bu 27 [4] Cfp rfl fun Q k T=>qA fun H u=>Au (iV 0) (qC u fun K y=>Av (iV n) (l_v (Wq rfl rfl (z:=(((7*n):Nat):Int)) wrE) (Au (iV ((7*n):Nat)) (qE y fun L M B C=>Av (.string (bs s)) (l_v (Vs Cdn (p:=s) rfl) (Av (iV 0) (l_k C (Ao (Cc (fun mm ee dd Y' Z'=>∃(i:Nat) (a:Nat),(s.length-i)=mm/\[]=dd/\Y=Y'/\Z=Z'/\ee 1=(.string (bs s))/\ee 10=(iV (s.length:Int))/\ee 5=iV a/\ee 11=iV i/\(i<=s.length)/\(a=7*n+Ajg (s.take i) 0)/\(a<=420000+24480*i)/\True) (m:=_) ⟨0,7*n,rfl,rfl,rfl,rfl,rfl,rfl,rfl,rfl,Hn _,rfl,(by omega),trivial⟩ ?_)))))))));rintro V R _ _ _ ⟨i,a,rfl,rfl,rfl,rfl,e,f,g,d,W,j,YQ,_⟩;refine qA fun N D=>l_v (Da d f) (Asa D fun O E=>Bp (t:=decide ((i:Int)<(s.length:Int))) rfl (fun c=>?_) (fun c=>?_))
 ·have G:=lZ3 c;refine Al (kk E ?_);refine Ai fun P F=>Ao (qA fun I w=>l_v (Ah (v:=iV i) d) (Au (iV i) (l_k w (qB (l_v (Ah (v:=iV a) g) (l_v (Ah (v:=.string (bs s)) e) (Av (iV i) ?_)))))));obtain⟨b,h⟩:=Cap (p:=s) (i:=i) (by omega);have U:=b.toNat_lt;have hm:=Btk b i;refine l_v (Aus (p:=s) i b Cdn rfl (q:=(i:Int)) rfl rfl h) (l_v (Acf (p:=(b.toNat:Int)) (z:=(b.toNat:Int)) Cdy Cec rfl wrR) (Av (iV i) (l_v (Ask (p:=(i:Int)) (q:=96) rfl rfl (by omega) (z:=(((i%96):Nat):Int)) rfl) (l_v (Br rfl rfl (z:=((((i%96)+1):Nat):Int)) wrE) (l_v (Wq rfl rfl (z:=(((b.toNat*((i%96)+1)):Nat):Int)) wrE) (l_v (Br rfl rfl (z:=(((a+(b.toNat*((i%96)+1))):Nat):Int)) wrE) (Au (iV (((a+(b.toNat*((i%96)+1))):Nat):Int)) (l_k F (qB (l_v (Br d rfl (z:=(((i+1):Nat):Int)) wrE) (Av (iV ((i+1):Nat)) (Ac ?_))))))))))));refine⟨_,?_,(i+1),(a+(b.toNat*((i%96)+1))),rfl,rfl,rfl,rfl,e,f,rfl,rfl,(by omega),(by rw[Biu h,j,Nat.add_assoc]),(by omega),trivial⟩;omega
 have G:=lZ2 c;refine Bx (kk B ?_);refine qA fun J x=>l_v (Ah (v:=iV a) g) (l_v (Ask (p:=(a:Int)) (q:=97) rfl rfl (by omega) (z:=(((a%97):Nat):Int)) rfl) (Au (iV ((a%97):Nat)) (l_k x (Aq (k (rT (iV ((a%97):Nat)) ?_))))));have hi:i=s.length:=by omega
 rw[j,hi,Agm];rfl
end
section
structure LPart where
 of_:ByteArray
 grams:Int
deriving DecidableEq
instance:Dat LPart:=.iso fun x=>(x.of_,x.grams)
theorem LPart.f_of_:Fld LPart ByteArray 0 LPart.of_:=⟨fun Y cs x=>(Fld.fst:Fld ((ByteArray)×(Int)) ByteArray 0 _).at_ Y cs (x.of_,x.grams)⟩
theorem LPart.f_grams:Fld LPart Int 1 LPart.grams:=⟨fun Y cs x=>((.snd Fld.self):Fld ((ByteArray)×(Int)) Int 1 _).at_ Y cs (x.of_,x.grams)⟩
structure LLot where
 name:ByteArray
 parts:List LPart
deriving DecidableEq
instance:Dat LLot:=.iso fun x=>(x.name,x.parts)
theorem LLot.f_name:Fld LLot ByteArray 0 LLot.name:=⟨fun Y cs x=>(Fld.fst:Fld ((ByteArray)×(List LPart)) ByteArray 0 _).at_ Y cs (x.name,x.parts)⟩
theorem LLot.f_parts:Fld LLot (List LPart) 1 LLot.parts:=⟨fun Y cs x=>((.snd Fld.self):Fld ((ByteArray)×(List LPart)) (List LPart) 1 _).at_ Y cs (x.name,x.parts)⟩
structure LBook where
 fields:List ByteArray
 lots:List LLot
deriving DecidableEq
instance:Dat LBook:=.iso fun x=>(x.fields,x.lots)
theorem LBook.f_fields:Fld LBook (List ByteArray) 0 LBook.fields:=⟨fun Y cs x=>(Fld.fst:Fld ((List ByteArray)×(List LLot)) (List ByteArray) 0 _).at_ Y cs (x.fields,x.lots)⟩
theorem LBook.f_lots:Fld LBook (List LLot) 1 LBook.lots:=⟨fun Y cs x=>((.snd Fld.self):Fld ((List ByteArray)×(List LLot)) (List LLot) 1 _).at_ Y cs (x.fields,x.lots)⟩
theorem LBook.open_{Y:Ro}{v:Value}{x:LBook}(h:Val Y v x):∃c0 c1,v = .agg #[c0,c1]/\Val Y c0 x.fields/\Val Y c1 x.lots:=by obtain⟨cs,⟨i,j,e,⟨f,a,c⟩,⟨g,b,d⟩⟩,hv⟩:=h;subst e;subst a;subst b;exact⟨f,g,hv,Cs.2 c,Cs.2 d⟩
structure LSrc where
 field:Int
 lot:Int
deriving DecidableEq
instance:Dat LSrc:=.iso fun x=>(x.field,x.lot)
theorem LSrc.f_field:Fld LSrc Int 0 LSrc.field:=⟨fun Y cs x=>(Fld.fst:Fld ((Int)×(Int)) Int 0 _).at_ Y cs (x.field,x.lot)⟩
theorem LSrc.f_lot:Fld LSrc Int 1 LSrc.lot:=⟨fun Y cs x=>((.snd Fld.self):Fld ((Int)×(Int)) Int 1 _).at_ Y cs (x.field,x.lot)⟩
theorem LSrc.shut{Y:Ro}{x:LSrc}(h0:I64 x.field)(h1:I64 x.lot):Val Y (.agg #[.int .i64 x.field,.int .i64 x.lot]) x:=⟨[.int .i64 x.field,.int .i64 x.lot],⟨[.int .i64 x.field],[.int .i64 x.lot],rfl,⟨rfl,h0⟩,⟨rfl,h1⟩⟩,rfl⟩
theorem Je:GoTy Tryz.prog 38 LPart:=⟨⟨_,Cds,rfl⟩,⟨_,Ab Tryz.typeInfo38,rfl⟩⟩
theorem Ga:GoTy Tryz.prog 36 LLot:=⟨⟨_,Cdr,rfl⟩,⟨_,Ab Tryz.typeInfo36,rfl⟩⟩
theorem Jo:GoTy Tryz.prog 25 LBook:=⟨⟨_,Cdm,rfl⟩,⟨_,Ab Tryz.typeInfo25,rfl⟩⟩
theorem Aod:GoTy Tryz.prog 199 LSrc:=⟨⟨_,Cej,rfl⟩,⟨_,Ab Cey,rfl⟩⟩
theorem Dr:GoTy Tryz.prog 23 (List LLot):=⟨⟨_,Cdp,rfl⟩,⟨_,Ab Tryz.typeInfo23,rfl⟩⟩
theorem Fl:GoTy Tryz.prog 34 (List LPart):=⟨⟨_,Cdt,rfl⟩,⟨_,Ab Tryz.typeInfo34,rfl⟩⟩
theorem Yd:GoTy Tryz.prog 185 (List LSrc):=⟨⟨_,Cef,rfl⟩,⟨_,Ab Tryz.typeInfo185,rfl⟩⟩
def Ahp:List Value:=[.string (ByteArray.mk #[]),.int .i64 0]
theorem Ahq:Fw Tryz.prog 38 (.agg #[.string (ByteArray.mk #[]),.int .i64 0]):=⟨_,Ab Tryz.typeInfo38,rfl⟩
def Aut:List Value:=[.string (ByteArray.mk #[]),.slice none 0 0]
theorem Auu:Fw Tryz.prog 36 (.agg #[.string (ByteArray.mk #[]),.slice none 0 0]):=⟨_,Ab Tryz.typeInfo36,rfl⟩
def Bqu:List Value:=[.int .i64 0,.int .i64 0]
theorem Auv:Fw Tryz.prog 199 (.agg #[.int .i64 0,.int .i64 0]):=⟨_,Ab Cey,rfl⟩
end
section
def Ot:List Nat->List Nat->Bool
 | _,[]=>false
 | [],_::_=>true
 | a::l,b::m=>decide (a<b)||(a==b&&Ot l m)
theorem Bng:∀l,Ot l l=false
 | []=>rfl
 | a::l=>by simp[Ot,Bng l]
theorem Bnh:∀{a b c:List Nat},Ot a b=false->Ot b c=false->Ot a c=false
 | a,b,[],_,_=>by cases a<;>rfl
 | a,[],c::m,_,h=>by simp[Ot]at h
 | [],b::l,c::m,h,_=>by simp[Ot]at h
 | a::k,b::l,c::m,h1,h2=>by
  simp only[Ot,Awm,decide_eq_false_iff_not,Bmf,beq_eq_false_iff_ne]at h1 h2 ⊢;refine⟨by omega,?_⟩;by_cases h3:a=c
  ·refine .inr (Bnh (h1.2.resolve_left (by omega)) (h2.2.resolve_left (by omega)))
  ·exact .inl h3
def bet(g:Nat->Int)(S C:Nat):Bool :=
 decide (g S<g C)||(decide (g S=g C)&&(decide ((elems S).length<(elems C).length)||(decide ((elems S).length=(elems C).length)&&Ot (elems S) (elems C))))
section
variable{g:Nat->Int}
theorem Apg{S C:Nat}:bet g S C=false↔g C<=g S/\(g S=g C->(elems C).length<=(elems S).length/\((elems S).length=(elems C).length->Ot (elems S) (elems C)=false)):=by
 unfold bet;simp only[Awm,Bmf,decide_eq_false_iff_not];constructor
 ·rintro⟨b,a⟩;refine⟨by omega,fun h=>?_⟩;rcases a with a|⟨a,h3⟩
  ·exact absurd h a
  ·exact⟨by omega,fun h=>h3.resolve_left (fun h'=>h' h)⟩
 ·rintro⟨b,a⟩;refine⟨by omega,?_⟩;by_cases h:g S=g C
  ·refine .inr ⟨by have:=(a h).1;omega,?_⟩;by_cases h3:(elems S).length=(elems C).length
   ·exact .inr ((a h).2 h3)
   ·exact .inl h3
  ·exact .inl h
theorem Bju(S:Nat):bet g S S=false:=Apg.2 ⟨by omega,fun _=>⟨by omega,fun _=>Bng _⟩⟩
theorem Bjv{A B C:Nat}(h1:bet g A B=false)(h2:bet g B C=false):bet g A C=false:=by rw[Apg]at h1 h2 ⊢;refine⟨by omega,fun h=>?_⟩;have a:=h1.2 (by omega);have b:=h2.2 (by omega);exact⟨by omega,fun c=>Bnh (a.2 (by omega)) (b.2 (by omega))⟩
theorem Bwi{A B:Nat}(h:bet g A B=true):bet g B A=false:=by
 cases h':bet g B A with
 | false=>rfl
 | true =>
  simp only[bet,Awv,Pc,decide_eq_true_eq]at h h';rcases h with h|⟨h1,h|⟨h2,h3⟩⟩<;>rcases h' with h'|⟨h1',h'|⟨h2',h3'⟩⟩<;>try omega
  exfalso;have:∀{a b:List Nat},Ot a b=true->Ot b a=true->False:=by
   intro a;induction a with
   | nil=>intro b _ h;cases b<;>simp[Ot]at h
   | cons x a ih =>
    intro b h h';cases b with
    | nil=>simp[Ot]at h
    | cons y b =>
     simp only[Ot,Awv,Pc,decide_eq_true_eq,beq_iff_eq]at h h';rcases h with h|⟨h1,h⟩<;>rcases h' with h'|⟨h1',h'⟩<;>try omega
     exact ih h h'
  exact this h3 h3'
def Gn(g:Nat->Int)(lot:Nat):Nat->Nat->Nat->Nat
 | 0,S,C=>if bet g S C then S else C
 | k+1,S,C=>Gn g lot k (S ||| 1 <<< k) (if k=lot then C else Gn g lot k S C)
def Aiq(k lot T:Nat):Prop:=T<2^k/\(lot<k->T.testBit lot=true)
theorem Bjw{T k j:Nat}(h:T<2^k)(hj:T.testBit j=true):j<k:=by
 rcases Tk j k with h1|h1
 ·exact h1
 ·rw[Nat.testBit_lt_two_pow (Pa h (Axa (by omega) h1))]at hj;cases hj
theorem Xa{k j:Nat}:(1 <<< k).testBit j=decide (k=j):=by rw[Aov,Nat.testBit_two_pow]
theorem Byg{S T k:Nat}(h:T<2^(k+1))(hk:T.testBit k=true):(S ||| 1 <<< k) ||| T%2^k=S ||| T:=by
 apply Bmj;intro j;rw[Amt,Amt,Amt,Xa,Bmd];rcases Bdo j k with h1|h1|h1
 ·simp[h1,show ¬k=j by omega]
 ·subst h1;simp[hk]
 ·have:T.testBit j=false:=by
   cases hT:T.testBit j with
   | false=>rfl
   | true=>have:=Bjw h hT;omega
  simp[this,show ¬k=j by omega]
theorem Bvv{S T k:Nat}:(S ||| 1 <<< k) ||| T=S ||| (T ||| 1 <<< k):=by apply Bmj;intro j;simp only[Amt];cases S.testBit j<;>cases T.testBit j<;>cases (1 <<< k).testBit j<;>rfl
theorem Bcs{k lot T:Nat}(h:Aiq k lot T):Aiq (k+1) lot (T ||| 1 <<< k):=by
 refine⟨Awt (by rw[Aqr];have:=h.1;omega) (by rw[Aov,Aqr];have:=Nat.two_pow_pos k;omega),fun hl=>?_⟩;rw[Amt,Xa];rcases Tk lot k with h1|h1
 ·rw[h.2 h1];rfl
 ·simp[show k=lot by omega]
theorem Bxd{k lot T:Nat}(h:Aiq k lot T)(hk:k≠lot):Aiq (k+1) lot T:=⟨by rw[Aqr];have:=h.1;omega,fun hl=>h.2 (by omega)⟩
theorem Bld{k lot T:Nat}(h:Aiq (k+1) lot T):Aiq k lot (T%2^k):=⟨Aqu _ (Nat.two_pow_pos k),fun hl=>by rw[Bmd,h.2 (by omega)];simp[hl]⟩
theorem Ble{k lot T:Nat}(h:Aiq (k+1) lot T)(hk:T.testBit k=false):Aiq k lot T:=by
 refine⟨?_,fun hl=>h.2 (by omega)⟩;apply Nat.lt_pow_two_of_testBit;intro j hj;cases hT:T.testBit j with
 | false=>rfl
 | true =>
  have:=Bjw h.1 hT;rw[show j=k by omega,hk]at hT;cases hT
theorem Aoc{lot:Nat}:∀{k S C:Nat},bet g C (Gn g lot k S C)=false/\(Gn g lot k S C=C∨∃T,Aiq k lot T/\Gn g lot k S C=S ||| T)/\∀T,Aiq k lot T->bet g (S ||| T) (Gn g lot k S C)=false
 | 0,S,C=>by
  unfold Gn;have h0:∀T,Aiq 0 lot T->T=0:=fun T h=>by have:=h.1;simpa using this
  by_cases h:bet g S C=true
  ·rw[if_pos h];exact⟨Bwi h,.inr ⟨0,⟨by simp,fun h=>by omega⟩,by simp⟩,fun T hT=>by rw[h0 T hT,Awy];exact Bju S⟩
  ·rw[if_neg h];exact⟨Bju C,.inl rfl,fun T hT=>by rw[h0 T hT,Awy];simpa using h⟩
 | k+1,S,C=>by
  unfold Gn;obtain⟨c,b,e⟩:=Aoc (lot:=lot) (k:=k) (S:=S ||| 1 <<< k) (C:=if k=lot then C else Gn g lot k S C);have up:∀T,Aiq (k+1) lot T->T.testBit k=true->bet g (S ||| T) (Gn g lot k (S ||| 1 <<< k) (if k=lot then C else Gn g lot k S C))=false:=fun T hT hk=>by
   have:=e _ (Bld hT)
   rwa[Byg hT.1 hk]at this
  by_cases hk:k=lot
  ·rw[if_pos hk]at c b up ⊢;refine⟨c,?_,fun T hT=>up T hT (by rw[hk];exact hT.2 (by omega))⟩;rcases b with b|⟨T,hT,b⟩
   ·exact .inl b
   ·exact .inr ⟨_,Bcs hT,b.trans Bvv⟩
  ·rw[if_neg hk]at c b up ⊢;obtain⟨f,d,i⟩:=Aoc (lot:=lot) (k:=k) (S:=S) (C:=C);refine⟨Bjv f c,?_,fun T hT=>?_⟩
   ·rcases b with b|⟨T,hT,b⟩
    ·rw[b];rcases d with d|⟨T,hT,d⟩
     ·exact .inl d
     ·exact .inr ⟨T,Bxd hT hk,d⟩
    ·exact .inr ⟨_,Bcs hT,b.trans Bvv⟩
   ·cases hT':T.testBit k with
    | true=>exact up T hT hT'
    | false=>exact Bjv (i T (Ble hT hT')) c
def Bgp(g:Nat->Int)(n lot:Nat):Nat:=Gn g lot n 0 (1 <<< lot)
theorem Apl{n lot:Nat}(h:lot<n):(Bgp g n lot<2^n/\(Bgp g n lot).testBit lot=true)/\∀D,D<2^n->D.testBit lot=true->bet g D (Bgp g n lot)=false:=by
 obtain⟨_,a,b⟩:=Aoc (g:=g) (lot:=lot) (k:=n) (S:=0) (C:=1 <<< lot);refine⟨?_,fun D c d=>?_⟩
 ·rcases a with a|⟨T,hT,a⟩
  ·unfold Bgp;rw[a];exact⟨by rw[Aov];exact Bde (by omega) h,by rw[Xa];simp⟩
  ·unfold Bgp;rw[a,Nat.zero_or];exact⟨hT.1,hT.2 h⟩
 ·have:=b D ⟨c,fun _=>d⟩
  rwa[Nat.zero_or]at this
end
end
section
def Yc:List LPart->Int
 | []=>0
 | p::l=>p.grams+Yc l
theorem Bqd{l m:List LPart}:Yc (l++m)=Yc l+Yc m:=by
 induction l with
 | nil=>simp[Yc]
 | cons p l ih=>rw[Sz,Yc,Yc,ih];omega
theorem Arn{l:List LPart}{i:Nat}{p:LPart}(h:l[i]?=some p):Yc (l.take (i+1))=Yc (l.take i)+p.grams:=by rw[Ym,h,Bqd];simp[Yc]
def Ef(l:LLot):Int:=Yc l.parts
def Vp(l:List Int)(below:Int)(i:Nat):Int:=match l[i]? with
 | some n=>if inR n 0 (below-1) then (if 0<i/\n<=l.getD (i-1) 0 then 7 else 0) else 6
 | none=>0
def Fj(l:List Int)(below:Int):Int:=Hl l.length (Vp l below)
section
variable{l:List Int}{b n m:Int}{i:Nat}
theorem Bzc(h:l[i]?=some n)(hr:inR n 0 (b-1)=false):Vp l b i=6:=by unfold Vp;rw[h];simp[hr]
theorem Bzd(h:l[i]?=some n)(hr:inR n 0 (b-1)=true)(hi:0<i)(hm:l[((i:Int)-1).toNat]?=some m)(hle:n<=m):Vp l b i=7:=by rw[show ((i:Int)-1).toNat=i-1 by omega]at hm;unfold Vp;rw[h];simp[hr,hi,Oz,hm,hle]
theorem Bbp(h:l[i]?=some n)(hr:inR n 0 (b-1)=true)(hp:0<i->∃m,l[((i:Int)-1).toNat]?=some m/\m<n):Vp l b i=0:=by unfold Vp;rw[h];simp only[hr,if_true];rw[if_neg];rintro⟨hi,hle⟩;obtain⟨m,hm,hlt⟩:=hp hi;rw[show ((i:Int)-1).toNat=i-1 by omega]at hm;rw[Oz,hm]at hle;simp at hle;omega
end
theorem Zp:∀{n:Nat},n<8->IntKind.u64.wrap (((1 <<< n:Nat)):Int)=((1 <<< n:Nat):Int)/\1 <<< n<256:=by decide
theorem Bba{l:List Nat}{i n:Nat}(h:l[i]?=some n):Bf (l.take (i+1))=Bf (l.take i) ||| 1 <<< n:=by unfold Bf;rw[Ym,h,Amn];rfl
end
section
theorem Bjy{p q:Nat}(hp:p<2^63)(hq:q<2^63):Op.intBits .or .u64 p q=pure (.int .u64 ((p ||| q:Nat):Int)):=by
 have c:p ||| q<2^63:=Awt hp hq;simp only[Op.intBits];congr 2;have:(BitVec.ofInt IntKind.u64.bits p ||| BitVec.ofInt IntKind.u64.bits q).toNat=p ||| q:=by
  show (BitVec.ofInt 64 p ||| BitVec.ofInt 64 q).toNat=_;rw[BitVec.toNat_or,BitVec.toNat_ofInt,BitVec.toNat_ofInt];have a:((p:Int)%(2^64:Nat)).toNat=p:=by omega
  have b:((q:Int)%(2^64:Nat)).toNat=q:=by omega
  rw[a,b]
 rw[this];show ((p ||| q:Nat):Int)%_=_;simp only[IntKind.bits];omega
theorem Bfm{P:Program}{Y:Ro}{e:Env}{ty t t':TypeId}{x y:Operand}{p q:Nat}(hx:Af e x = .int .u64 p)(hy:Af e y = .int .u64 q)(hp:p<2^63)(hq:q<2^63):Yld P Y e (.binOp .or t x y t') ty (.int .u64 ((p ||| q:Nat):Int)) :=
 La hx hy Dh (by simp only[binOp];rw[if_neg (by simp)];exact Bjy hp hq)
variable{mn:Bool}{X:Frame->List Frame->Ro->Own->Cy->Prop}{Y:Ro}{Z:Own}
theorem Asw{l:LLot}{vl:Value}(rl:Val Y vl l)(hn:l.parts.length<=100000)(hb:∀p∈l.parts,0<=p.grams/\p.grams<=100000):CallsH (CX mn X) 74 #[vl] Y Z (rP Y Z (iV (Ef l))):=by
 refine Bu 19 [2] Cfn rfl fun Q x a4=>qA fun V y=>Arv (Nk (v:=vl) rfl fun k2=>?_);refine Bb (a:=l) rl fun U K O=>Au (iV 0) (qC y fun K3 G=>Au (iV 0) (Ary rfl rfl G fun K4 K5 H I=>Arw (Ba LLot.f_parts Cdr rfl Fl O) fun v6 P=>Arw (Ax Fl rfl P) fun T g=>?_));have g8:=Val.len g;refine l_v (Ci (el:=38) Cdt rfl g) (Av (iV 0) (l_k I (Ao (Cc (fun mm ee dd Y' Z'=>∃(i:Nat) (a:Int),(l.parts.length-i)=mm/\[]=dd/\U=Y'/\Z=Z'/\ee 7=T/\ee 8=(iV (l.parts.length:Int))/\ee 3=iV a/\ee 9=iV i/\(i<=l.parts.length)/\(a=Yc (l.parts.take i))/\(0<=a/\a<=100000*(i:Int))/\True) (m:=_) ⟨0,0,rfl,rfl,rfl,rfl,rfl,rfl,rfl,rfl,Hn _,rfl,⟨by omega,by omega⟩,trivial⟩ ?_))));rintro m9 e9 _ _ _ ⟨i,a,rfl,rfl,rfl,rfl,j,k,h,e,a7,n,a8,_⟩;refine qA fun W B=>l_v (Da e k) (Asa B fun YQ C=>Bp (t:=decide ((i:Int)<(l.parts.length:Int))) rfl (fun d=>?_) (fun d=>?_))
 ·have L:=lZ3 d;refine Al (kk C ?_);refine Ai fun ZQ D=>Ao (qA fun a0 E=>?_);obtain⟨b,f⟩:=Ed (xs:=l.parts) (i:=i) (by omega);have a5:=hb _ (lZ6 f);refine Arw (Ch i Cdt Je j g (q:=(i:Int)) e rfl f) fun a9 M=>Arw (Ax Je rfl M) fun R u=>Arv (Ct Ahq fun a6=>?_);refine Cx rfl (Dv (v:=R) (a:=b) (c:=Ahp) Je rfl rfl u rfl ?_);refine Bb (a:=b) u fun ab J N=>l_k E (qB (l_v (Ah (v:=iV a) h) (Arw (Ba LPart.f_grams Cds rfl ty3 N) fun aa w=>?_)));have⟨a2,a3⟩:=At.rng w;refine l_v (Bc ty3 rfl w) (l_v (Br rfl rfl (z:=a+b.grams) (Bo (by rfl) (by omega) (by omega))) (Au (iV (a+b.grams)) (l_k D (qB (l_v (Br e rfl (z:=(((i+1):Nat):Int)) wrE) (Av (iV ((i+1):Nat)) (Bj (Cfq J) (Ac ?_))))))));refine⟨_,?_,(i+1),(a+b.grams),rfl,rfl,rfl,rfl,j,k,rfl,rfl,(by omega),(by rw[Arn f,n]),⟨by omega,by omega⟩,trivial⟩;omega
 have L:=lZ2 d;refine Bx (kk H ?_);refine qA fun a1 F=>l_v (Ah (v:=iV a) h) (Au (iV a) (l_k F (Aj (Cfq K) (Aq (x (rT (iV a) ?_))))));rw[n,show i=l.parts.length by omega,Agm];rfl
theorem Avk{l:List Int}{b:Int}{vl:Value}(rl:Val Y vl l)(hb:0<=b/\b<=1000000):CallsH (CX mn X) 41 #[vl,iV b] Y Z (rP Y Z (iV (Fj l b))):=by
 refine Bu 33 [4] Tryz.func41 rfl fun Q D aa=>qA fun ZQ J=>Au (iV 0) (Ary rfl rfl J fun K2 K3 N R=>Av vl ?_);have g4:=Val.len rl;refine l_v (Ci (el:=3) Cdo rfl rl) (Av (iV 0) (l_k R (Ao (Cc (fun mm ee dd Y' Z'=>∃(i:Nat),(l.length-i)=mm/\[]=dd/\Y=Y'/\Z=Z'/\ee 0=vl/\ee 1=iV b/\ee 7=vl/\ee 8=(iV (l.length:Int))/\ee 9=iV i/\(i<=l.length)/\(∀j,j<i->Vp l b j=0)/\True) (m:=_) ⟨0,rfl,rfl,rfl,rfl,rfl,rfl,rfl,rfl,rfl,Hn _,fun j h=>absurd h (Uk _),trivial⟩ ?_))));rintro m5 e5 _ _ _ ⟨i,rfl,rfl,rfl,rfl,w,x,y,B,d,ab,f,_⟩;refine qA fun K6 T=>l_v (Da d B) (Asa T fun K7 U=>Bp (t:=decide ((i:Int)<(l.length:Int))) rfl (fun u=>?_) (fun u=>?_))
 ·have YQ:=lZ3 u;refine Al (kk U ?_);refine Ai fun K9 G=>Ao (qA fun a0 K=>l_v (Ah (v:=iV i) d) ?_);obtain⟨c,e⟩:=Ed (xs:=l) (i:=i) (by omega);refine Arw (Ch i Cdo ty3 y rl (q:=(i:Int)) d rfl e) fun ae H=>?_;have⟨a6,a7⟩:=At.rng H;refine l_v (Bc ty3 rfl H) (Au (iV i) (Au (iV c) (l_k K (Ao (qA fun a1 L=>Av (iV c) (l_v (Ah (v:=iV b) x) (l_v (Ou rfl rfl (z:=b-1) (Bo (by rfl) (by omega) (by omega))) (Arv (Cw Ri Cet ?_)))))))));refine l_v (Iy rfl) (Au (.bool (!(inR c 0 (b-1)))) (l_k L (Bp (t:=!(inR c 0 (b-1))) rfl (fun n=>?_) (fun n=>?_))))
  ·have E:=not_eq_t n;have ac:=Aic.1 E;refine qA fun a2 M=>Au (iV 6) (l_k M (Aq (D (rT (iV 6) ?_))));rw[Fj,Db f (by omega) (Bzc e E) (by decide)]
  have g:=Ha n;have ad:=Fz.1 g;refine qA fun a3 F=>Av (iV i) (l_v (Gl rfl rfl) (Av (.bool (decide ((i:Int)>0))) (Cn (decide ((i:Int)>0)) (fun a=>?_) (fun a=>?_))))
  ·have V:=lZ3 a;refine l_M (iV c) (qF a) rfl (Aa (qF a) (Ah (v:=vl) w) (l_M (iV i) (qF a) rfl (Aa (qF a) (Ou rfl rfl (z:=(i:Int)-1) wrE) ?_)));obtain⟨k,C⟩:=Ed (xs:=l) (i:=(((i:Int)-1)).toNat) (by omega);refine Ak (qF a) (Ch ((((i:Int)-1)).toNat) Cdo ty3 rfl rl (q:=(i:Int)-1) rfl (by omega) C) fun af I=>?_;have⟨a8,a9⟩:=At.rng I;refine Aa (qF a) (Bc ty3 rfl I) (Aa (qF a) (Uz rfl rfl) (l_v (Bt rfl a (v:=.bool (decide (c<=k))) rfl) (Au (.bool (decide (c<=k))) (l_k F (Bp (t:=decide (c<=k)) rfl (fun p=>?_) (fun p=>?_))))))
   ·have W:=lZ3 p;refine qA fun a4 O=>Au (iV 7) (l_k O (Aq (D (rT (iV 7) ?_))));rw[Fj,Db f (by omega) (Bzd e g (by omega) C (by omega)) (by decide)]
   have W:=lZ2 p;refine Al (kk G ?_);refine qB (l_v (Br d rfl (z:=(((i+1):Nat):Int)) wrE) (Av (iV ((i+1):Nat)) (Ac ?_)));refine⟨_,?_,(i+1),rfl,rfl,rfl,rfl,w,x,y,B,rfl,(by omega),(Eg f (Bbp e g fun h=>⟨_,C,by omega⟩)),trivial⟩;omega
  have V:=lZ2 a;refine Ap (gN rfl a) (Ap (gN rfl a) (Ap (gN rfl a) (Ap (gN rfl a) (Ap (gN rfl a) (Ap (gN rfl a) (Ap (gN rfl a) (l_v (Bn rfl a (v:=bF) rfl) (Au bF (l_k F (Cg rfl rfl (Al (kk G ?_))))))))))));refine qB (l_v (Br d rfl (z:=(((i+1):Nat):Int)) wrE) (Av (iV ((i+1):Nat)) (Ac ?_)));refine⟨_,?_,(i+1),rfl,rfl,rfl,rfl,w,x,y,B,rfl,(by omega),(Eg f (Bbp e g fun h=>by omega)),trivial⟩;omega
 have YQ:=lZ2 u;refine Bx (kk N ?_);refine qA fun a5 P=>Au (iV 0) (l_k P (Aq (D (rT (iV 0) ?_))));rw[Fj,Fb fun j hj=>f j (by omega)]
theorem Asy{xs:List Nat}{vl:Value}(rl:Val Y vl (Bw xs:List Int))(hb:∀n∈xs,n<8):CallsH (CX mn X) 36 #[vl] Y Z (rP Y Z (.int .u64 ((Bf xs:Nat):Int))):=by
 have hxl:(Bw xs).length=xs.length:=Fc;refine Bu 18 [2] Cfd rfl fun Q w a0=>qA fun K y=>Au (.int .u64 0) (qC y fun O E=>Au (.int .u64 0) (Ary rfl rfl E fun P R F G=>Av vl ?_));have g5:=Val.len rl;refine l_v (Ci (el:=3) Cdo rfl rl) (Av (iV 0) (l_k G (Ao (Cc (fun mm ee dd Y' Z'=>∃(i:Nat) (a:Nat),(xs.length-i)=mm/\[]=dd/\Y=Y'/\Z=Z'/\ee 6=vl/\ee 7=(iV ((Bw xs).length:Nat))/\ee 3=(.int .u64 (a:Int))/\ee 8=iV i/\(i<=xs.length)/\(a=Bf (xs.take i))/\True) (m:=_) ⟨0,0,rfl,rfl,rfl,rfl,rfl,rfl,rfl,rfl,Hn _,rfl,trivial⟩ ?_))));rintro m6 W _ _ _ ⟨i,a,rfl,rfl,rfl,rfl,g,h,f,d,a1,k,_⟩;refine qA fun T H=>l_v (Da d h) (Asa H fun U I=>Bp (t:=decide ((i:Int)<(((Bw xs).length:Nat):Int))) rfl (fun c=>?_) (fun c=>?_))
 ·have J:=lZ3 c;refine Al (kk I ?_);refine Ai fun L B=>Ao (qA fun M C=>?_);obtain⟨V,j⟩:=Ed (xs:=Bw xs) (i:=i) (by omega);obtain⟨b,e,x⟩:=Ts j;subst x;have hqn:=hb b (lZ6 e);have hqb:=Zp (hb b (lZ6 e));have hmb:Bf (xs.take i)<2^8:=Sl fun n hn=>hb n (Bdd hn);obtain⟨hqa,hqc⟩:=hqb;refine Arw (Ch i Cdo ty3 g rl (q:=(i:Int)) d rfl j) fun a2 u=>?_;have⟨YQ,ZQ⟩:=At.rng u;refine l_v (Bc ty3 rfl u) (Au (iV b) (l_k C (qB (l_v (Ah (v:=.int .u64 (a:Int)) f) (Av (iV b) (l_v (Md (p:=1) (q:=b) rfl rfl rfl (by omega) (z:=(((1 <<< b):Nat):Int)) hqa) (l_v (Bfm (p:=a) (q:=1 <<< b) rfl rfl (by omega) (by omega)) (Au (.int .u64 (((a ||| (1 <<< b)):Nat):Int)) (l_k B (qB (l_v (Br d rfl (z:=(((i+1):Nat):Int)) wrE) (Av (iV ((i+1):Nat)) (Ac ?_)))))))))))));refine⟨_,?_,(i+1),(a ||| (1 <<< b)),rfl,rfl,rfl,rfl,g,h,rfl,rfl,(by omega),(by rw[Bba e,k]),trivial⟩;omega
 have J:=lZ2 c;refine Bx (kk F ?_);refine qA fun N D=>l_v (Ah (v:=.int .u64 (a:Int)) f) (Au (.int .u64 (a:Int)) (l_k D (Aq (w (rT (.int .u64 (a:Int)) ?_)))));rw[k,show i=xs.length by omega,Agm]
theorem Asv{x:Nat}(hx:x<256):CallsH (CX mn X) 37 #[.int .u64 (x:Int)] Y Z (fun w Y' Z'=>Ro.le Y Y'/\Z'=Z/\Val Y' w (Bw (Bv x):List Int)):=by
 have a5:=Sk (x:=x);refine Bu 21 [2] Cfj rfl fun Q J a6=>qA fun K1 K=>Au nS (Arx rfl rfl K fun K2 O=>Au nS (Ary rfl rfl O fun K3 K4 P R=>Av (.int .u64 (x:Int)) (Arv (Cw (Apo (x:=x) (by omega)) Tryz.func73 ?_))));refine Av (iV 0) (l_k R (Ao (Cc (fun mm ee dd Y' Z'=>∃(i:Nat) (a:Value) (d:Own),(Ie x-i)=mm/\[]=dd/\Ro.le Y Y'/\(d++Z)=Z'/\ee 0=(.int .u64 (x:Int))/\ee 6=(iV ((Ie x):Nat))/\ee 3=a/\ee 7=iV i/\(i<=Ie x)/\Grow Y' 3 a (Bw ((List.range i).filter (Gw x))) d/\True) (m:=_) ⟨0,nS,[],rfl,rfl,Cfs,rfl,rfl,rfl,rfl,rfl,Hn _,Hm,trivial⟩ ?_)));rintro m5 e5 _ a1 _ ⟨i,a,d,rfl,rfl,k,rfl,g,j,h,e,a7,b,_⟩;refine qA fun K6 T=>l_v (Da e j) (Asa T fun K7 U=>Bp (t:=decide ((i:Int)<(((Ie x):Nat):Int))) rfl (fun f=>?_) (fun f=>?_))
 ·have YQ:=lZ3 f;refine Al (kk U ?_);refine Ai fun K9 u=>Ao (qA fun a2 L=>l_v (Ah (v:=iV i) e) (Au (iV i) (Arx rfl rfl L fun a3 M=>l_v (Ah (v:=.int .u64 (x:Int)) g) (Av (iV i) (l_v (Lc (p:=x) (q:=i) rfl rfl rfl (by omega)) (l_v (Nv (p:=x>>>i) (q:=1) rfl rfl (Nl (by omega))) (l_v (Ek rfl rfl) (l_k M (Bp (t:=((((x>>>i) &&& 1):Nat):Int)==1) rfl (fun c=>?_) (fun c=>?_))))))))))
  ·have H:=bitM.symm.trans c;have W:=Jr c;refine qB (l_v (Ah (v:=a) h) (Av (iV i) (Arv (Bi (α:=Int) (xs:=[(i:Int)]) (vs:=[iV i]) Cdo ty3 zr3 rfl (by decide) (Dk (os:=[.tmp 16]) ⟨rfl,trivial⟩) ⟨Cv.2 ⟨rfl,by constructor<;>omega⟩,trivial⟩ rfl (by decide) fun n F E=>?_))))
   have C:Grow a1 3 (.slice (some ⟨n,0,none⟩) 1 1) ([(i:Int)]:List Int) [(n,oC F.toArray 3)]:=Bs E rfl (by decide);refine Ca C fun a8 y ZQ=>?_;replace b:=Grow.mono y b;refine Arv (Gc (Z:=Z) (gr:=d) (xs:=Bw ((List.range i).filter (Gw x))) (ys:=([(i:Int)]:List Int)) Cdo Cdo (Ab Cer) rfl nL rfl rfl rfl rfl b ZQ (by have:=Alb (p:=Gw x) (i:=i);simp only[lZ4,Gb,Nx];omega) fun B G D=>?_);refine Au B (l_k u (qB (l_v (Br e rfl (z:=(((i+1):Nat):Int)) wrE) (Av (iV ((i+1):Nat)) (Ac ?_)))));refine⟨_,?_,(i+1),B,G,rfl,rfl,(Cft k y),rfl,g,j,rfl,rfl,(by omega),(Fy (by rw[Aps H]) D),trivial⟩;omega
  have I:=bitM.symm.trans c;have W:=Jq c;refine Al (kk u ?_);refine qB (l_v (Br e rfl (z:=(((i+1):Nat):Int)) wrE) (Av (iV ((i+1):Nat)) (Ac ?_)));refine⟨_,?_,(i+1),a,d,rfl,rfl,k,rfl,g,j,h,rfl,(by omega),(Fy (by rw[Apr I]) b),trivial⟩;omega
 have YQ:=lZ2 f;refine Bx (kk P ?_);refine qA fun a4 N=>l_v (Ah (v:=a) h) (Au a (l_k N (Hc b fun a9 V a0=>Aq (J ⟨Cft k V,rfl,Abz (v:=a) rfl (Val.cast ?_ a0)⟩))))
 ·rw[show i=Ie x by omega];rfl
end
section
def isK(v:Value)(k:ByteArray):Bool:=match v with | .string k'=>decide (k'=k)|_=>false
theorem Bcw{v:Value}{k:ByteArray}:isK v k=true↔v = .string k:=by cases v<;>simp[isK]
def Nd(k:ByteArray):List MapEntry->Nat->Option (Nat×Value)
 | [],_=>none
 | en::es,i=>if isK en.key k=true then some (i,en.val) else Nd k es (i+1)
def Bcc(es:List MapEntry):Prop:=∀en∈es,(∃k,en.key = .string k)/\∃z,en.val = .int .i64 z
def Yj(es:Array MapEntry)(f:ByteArray->Option Int):Prop:=Bcc es.toList/\∀k,(Nd k es.toList 0).map (·.2)=(f k).map (Value.int .i64)
def Rb(f:ByteArray->Option Int)(k:ByteArray)(z:Int):ByteArray->Option Int:=fun k'=>if k'=k then some z else f k'
theorem Anj:Yj #[] (fun _=>none):=⟨fun en h=>(by cases h),fun k=>rfl⟩
theorem Apx{k:ByteArray}:∀(es:List MapEntry) (i:Nat),Bcc es->Instr.findNow .string (.string k) es i=some (Nd k es i)
 | [],_,_=>rfl
 | en::es,i,h=>by
  obtain⟨⟨k',h1⟩,_⟩:=h en mC;have ih:=Apx (k:=k) es (i+1) fun x hx=>h x (lZ0 _ hx);simp only[Instr.findNow,h1,Instr.sameNow,Nd];by_cases hk:k=k'
  ·subst hk;have a:(k==k)=true:=by rw[Aec];simp
   simp[isK,a]
  ·have b:(k==k')=false:=by
    rw[Aec];simp only[beq_eq_false_iff_ne,ne_eq];intro e;apply hk;rw[ByteArray.toList_eq,ByteArray.toList_eq]at e;exact ByteArray.ext (Bmt.1 e)
   have c:isK (Value.string k') k=false:=Ji fun e=>hk e.symm;simp[b,c,ih]
theorem Acd{k:ByteArray}:∀{es:List MapEntry} {i:Nat} {r:Nat×Value},Nd k es i=some r->∃j en,r.1=i+j/\es[j]?=some en/\en.key = .string k/\en.val=r.2
 | [],_,_,h=>by cases h
 | en::es,i,r,h=>by
  unfold Nd at h;split at h
  ·rename_i hk;cases h;exact⟨0,en,rfl,rfl,Bcw.1 hk,rfl⟩
  ·obtain⟨j,en',h1,h2,h3,h4⟩:=Acd h;exact⟨j+1,en',by omega,by simpa using h2,h3,h4⟩
theorem Apy{k:ByteArray}{en:MapEntry}:∀{es:List MapEntry} {i:Nat},Nd k (es++[en]) i=match Nd k es i with|some r=>some r|none=>if isK en.key k=true then some (i+es.length,en.val) else none
 | [],i=>by simp[Nd]
 | x::es,i=>by
  rw[Sz,Nd,Nd];by_cases hx:isK x.key k=true
  ·rw[if_pos hx,if_pos hx]
  ·rw[if_neg hx,if_neg hx,Apy];cases Nd k es (i+1) with
   | some r=>rfl
   | none=>simp only[Gb];rw[show i+1+es.length=i+(es.length+1) by omega]
theorem Aqa{k k':ByteArray}{w:Value}:∀{es:List MapEntry} {i j:Nat} {v:Value},Nd k es i=some (i+j,v) ->
  (Nd k' (es.modify j fun e=>{e with key:=.string k,val:=w}) i).map (·.2)=if k'=k then some w else (Nd k' es i).map (·.2)
 | [],_,_,_,h=>by cases h
 | en::es,i,j,v,h=>by
  unfold Nd at h;by_cases hk:isK en.key k=true
  ·rw[if_pos hk]at h;have hj:j=0:=by
    have:=congrArg (fun o:Option (Nat×Value)=>(o.map (·.1)).getD 0) h;simp at this;omega
   subst hj;rw[List.modify_zero_cons];unfold Nd;by_cases hkk:k'=k
   ·subst hkk;simp[isK]
   ·have a:isK (Value.string k) k'=false:=Ji fun e=>hkk e.symm;simp[hkk,Bcw.1 hk,a]
  ·rw[if_neg hk]at h;obtain⟨j',_,b,_⟩:=Acd h;simp only at b;have hj:j=j'+1:=by omega
   subst hj;rw[List.modify_succ_cons];unfold Nd;by_cases hx:isK en.key k'=true
   ·have hkk:k'≠k:=fun e=>hk (by rw[<-e];exact hx);simp[hx,hkk]
   ·rw[if_neg hx,if_neg hx];exact Aqa (v:=v) (by rw[h,show i+1+j'=i+(j'+1) by omega])
section
variable{C:Ctx}{e:Env}{ds:List Deferred}{Y:Ro}{Z:Own}{K:Value->List Deferred->Ro->Own->Prop}{rd:Option Nat}{dd:Option Tmp}
variable{ty:TypeId}{pos:String}{af:Array Edge}{g:Option (Nat×Bool)}{x y u:Operand}{t:TypeId}{P:Program}{kt et:TypeId}{k:ByteArray}{es:Array MapEntry}{f:ByteArray->Option Int}
theorem Ars(hk:P.underlying kt=some .string)(hs:Yj es f){Q:Option (Nat×Value)->Own->Prop}(h:Q (Nd k es.toList 0) Z):wpS P Y (Instr.findKey kt (.string k) es.toList) Z Q:=by show wpS P Y ((underlying kt).bind _) Z Q;rw[Ad];refine Az hk ?_;simp only[Apx (k:=k) es.toList 0 hs.1];exact h
theorem Bno(hs:Yj es f)(k:ByteArray):(Nd k es.toList 0=none↔f k=none):=by have:=hs.2 k;cases h:Nd k es.toList 0<;>cases h':f k<;>rw[h,h']at this<;>simp at this ⊢
theorem Afi{Y9:Ro}{A:Own}{r ck:Nat}{ok:Bool}(hT:P.underlying t=some (.map kt et))(hk:P.underlying kt=some .string)(hz:Fw P et (.int .i64 0))(hs:Yj es f)
  (hx:Af e x = .map (some r)) (hy:Af e y = .string k) (hi:(r,Res.obj (.map es ck))∈A) :
  Wy P Y9 A e (.lookup t x y ok) ty (if ok then .tuple #[.int .i64 ((f k).getD 0),.bool (f k).isSome] else .int .i64 ((f k).getD 0)):=fun Y' Z d pos af g hS=>by
 show wpS P Y' ((Instr.lookup t (Af e x) (Af e y) ok).bind fun v=>Sem.pure (Next.value v)) Z _;rw[Ad,hx,hy];show wpS P Y' ((underlying t).bind _) Z _;rw[Ad];refine Az hT ?_;show wpS P Y' ((getObj r).bind _) Z _;rw[Ad];refine⟨_,.inr (hS.2 _ hi),rfl,?_⟩;show wpS P Y' ((Instr.checkKey es.isEmpty 10000 kt (.string k)).bind _) Z _;rw[Ad];refine Qo (m:=9999) hk ?_;show wpS P Y' ((Instr.findKey kt (.string k) es.toList).bind _) Z _;rw[Ad];refine Ars hk hs ?_;have a:=hs.2 k;cases hf:Nd k es.toList 0 with
 | none =>
  have b:=(Bno hs k).1 hf;rw[b];show wpS P Y' ((zeroValue et).bind _) Z _;rw[Ad];refine Jz hz ?_;cases ok<;>exact⟨rfl,rfl⟩
 | some q =>
  rw[hf]at a;cases b:f k with
  | none=>rw[b]at a;cases a
  | some z =>
   rw[b]at a;have e:q.2 = .int .i64 z:=by simpa using a
   simp only[Amz,Bms];rw[<-e];cases ok<;>exact⟨rfl,rfl⟩
theorem Aum{i r ck:Nat}{z:Int}(hT:C.P.underlying t=some (.map kt et))(hk:C.P.underlying kt=some .string)(hs:Yj es f)
  (hx:Af e x = .map (some r)) (hy:Af e y = .string k) (hu:Af e u = .int .i64 z) (hi:Z[i]?=some (r,.obj (.map es ck)))
  (h:∀es' ck',Yj es' (Rb f k z)->K undef ds Y (Z.set i (r,.obj (.map es' ck')))):wpS C.P Y (execOp (Af e) ⟨dd,.mapUpdate t x y u,ty,pos,af,g⟩) Z (NextH C K rd ds Y):=by
 show wpS C.P Y ((Instr.mapUpdate t (Af e x) (Af e y) (Af e u)).bind _) Z _;refine Ahn ?_;rw[hx,hy,hu];show wpS C.P Y ((underlying t).bind _) Z _;rw[Ad];refine Az hT ?_;show wpS C.P Y ((getObj r).bind _) Z _;rw[Ad];refine⟨_,.inr (lZ6 hi),rfl,?_⟩;show wpS C.P Y ((Instr.checkKey false 10000 kt (.string k)).bind _) Z _;rw[Ad];refine Qo (m:=9999) hk ?_;show wpS C.P Y ((Instr.findKey kt (.string k) es.toList).bind _) Z _;rw[Ad];refine Ars hk hs ?_;cases hf:Nd k es.toList 0 with
 | none =>
  refine⟨rfl,i,_,hi,rfl,h _ _ ⟨fun en hen=>?_,fun k'=>?_⟩⟩
  ·rw[Bdk,Gv,Nh]at hen;rcases hen with hen|rfl
   ·exact hs.1 en hen
   ·exact⟨⟨k,rfl⟩,z,rfl⟩
  ·rw[Bdk,Apy];unfold Rb;by_cases hkk:k'=k
   ·subst hkk;rw[hf];simp[isK]
   ·have a:isK (Value.string k) k'=false:=Ji fun e=>hkk e.symm;rw[if_neg hkk,<-hs.2 k'];cases Nd k' es.toList 0<;>simp[a]
 | some q =>
  obtain⟨j,en,n,b,c,p⟩:=Acd hf;show wpS C.P Y ((Instr.keyThatStays (((es[q.1]?).map (·.key)).getD _) _).bind _) Z _;have hj:q.1=j:=by omega
  have hq:es[q.1]?=some en:=by rw[hj,<-Bhg];exact b
  rw[Ad,hq];refine Xt (by show en.key=_;rw[c]) ?_;refine⟨rfl,i,_,hi,rfl,h _ _ ⟨fun en' hen=>?_,fun k'=>?_⟩⟩
  ·rw[Bml]at hen;obtain⟨m,hm⟩:=Se hen;rw[List.getElem?_modify]at hm;cases hx:es.toList[m]? with
   | none=>rw[hx]at hm;simp at hm
   | some en0 =>
    rw[hx]at hm;have d:=hs.1 en0 (lZ6 hx);by_cases hqm:q.1=m
    ·simp[hqm]at hm;subst hm;exact⟨⟨k,rfl⟩,z,rfl⟩
    ·simp[hqm]at hm;subst hm;exact d
  ·rw[Bml];have:=Aqa (k':=k') (w:=.int .i64 z) (show Nd k es.toList 0=some (0+q.1,q.2) by rw[hf,Qz]);rw[this];unfold Rb;by_cases hkk:k'=k
   ·rw[if_pos hkk,if_pos hkk];rfl
   ·rw[if_neg hkk,if_neg hkk,hs.2 k']
end
end
end Go.Proofs.YtekhlbdfjkndnaaGreatDoor
