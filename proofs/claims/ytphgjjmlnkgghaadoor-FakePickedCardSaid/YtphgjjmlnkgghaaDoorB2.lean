/- Part 2 of what all laws of layer 8 need: a logic of programs that start goroutines, and what the functions yield. -/
import Derived.Test.YtphgjjmlnkgghaaDoorB1
import Derived.Carry
import Derived.ChangeArms
import Derived.ChangeSame
import Derived.ChangeVars
import Derived.Conc.Holds
import Derived.Conc.LeavingOf
import Derived.FnData
import Derived.LaidHandle
import Derived.LaidLaws
import Derived.LaidMore
import Derived.OpenShut
import Derived.RowKit
import Derived.SevenTiedAt
import Derived.SizedLaws
import Derived.Stop.Joined
import Derived.Test.YtphgjjmlnkgghaaDoorCards
import Derived.Test.YtphgjjmlnkgghaaDoorRows
import Derived.Test.YtphgjjmlnkgghaaDoorTie
import Derived.WideShapes
set_option linter.unusedVariables false
set_option linter.unusedSimpArgs false
set_option maxRecDepth 100000
namespace Go.Proofs.YtphgjjmlnkgghaaDoor
section
open Go Go.Conc Go.RowKit
open Go.ConcN (sumTo sumTo_upd upd_ne upd_same)
section
variable {P:Program} {Pst:Value→World→Prop} {W0:World} {fr:Frame} {cs:List Frame} {ρ:Ro} {σ:Own} {c:Nat} {vs:List Value} {fw:Frame} {cw:List Frame} {ρw:Ro} {σw:Own} {j:Nat} {Am Aw Sh:Nat→Prop} {mp:Option Value} {wp:Option (Value × Value)}
 {gs:Array Goroutine} {w:World} {t:Trace} {q:Nat→Nat}
theorem PhB.ghostw {ρw':Ro} {σw':Own} (hg:Ghost ρw σw ρw' σw') (h:PhB P W0 fr cs ρ σ c vs fw cw ρw σw j Am Aw Sh mp wp gs w t q):PhB P W0 fr cs ρ σ c vs fw cw ρw' σw' j Am Aw Sh mp wp gs w t q :=
  { h with
    satw:=hg.sat _ h.satw
    nrw:=fun c' vs' hc'=>h.nrw c' vs' ((hg.ends _ _).1 hc')
    neww:=fun b hb=>h.neww b (hg.keys b hb)
    aw:=fun b hb=>h.aw b (hg.keys b hb)
    rw_:=fun b hb=>(hg.dom b hb).elim (h.rw_ b) fun ⟨o,ho⟩=>.inr (h.aw b (Du ho)) }
theorem Xv {ρ':Ro} {σ':Own} (hg:Ghost ρ σ ρ' σ') (h:∀ b r,(b,r) ∈ σ→(∀ vs,r ≠ .recv vs)→Am b) (b:Nat) (r:Res) (hb:(b,r) ∈ σ') (hr:∀ vs,r ≠ .recv vs):Am b:=by
 cases r with
 | obj o=>obtain ⟨o',ho'⟩:=hg.objs b o hb; exact h b _ ho' (by simp)
 | chan=>exact h b _ (hg.chans b hb) (by simp)
 | recv vs=>exact absurd rfl (hr vs)
theorem PhB.ghost {ρ':Ro} {σ':Own} (hg:Ghost ρ σ ρ' σ') (h:PhB P W0 fr cs ρ σ c vs fw cw ρw σw j Am Aw Sh mp wp gs w t q):PhB P W0 fr cs ρ' σ' c vs fw cw ρw σw j Am Aw Sh mp wp gs w t q :=
  { h with
    sat:=hg.sat _ h.sat
    hc:=(hg.ends _ _).2 h.hc
    one:=fun c' vs' hc'=>h.one c' vs' ((hg.ends _ _).1 hc')
    newk:=fun b hb=>h.newk b (hg.keys b hb)
    am:=Xv hg h.am
    rm:=fun b hb=>(hg.dom b hb).elim (h.rm b) fun ⟨o,ho⟩=>.inr (h.am b _ ho (by simp)) }
theorem PhC.ghost {ρ':Ro} {σ':Own} {pc:Nat} (hg:Ghost ρ σ ρ' σ') (h:PhC P W0 fr cs ρ σ c j Am Aw Sh pc gs w t q):PhC P W0 fr cs ρ' σ' c j Am Aw Sh pc gs w t q :=
  { h with
    sat:=hg.sat _ h.sat
    hc:=(hg.ends _ _).2 h.hc
    one:=fun c' vs' hc'=>h.one c' vs' ((hg.ends _ _).1 hc')
    newk:=fun b hb=>h.newk b (hg.keys b hb)
    am:=Xv hg h.am
    rm:=fun b hb=>(hg.dom b hb).elim (h.rm b) fun ⟨o,ho⟩=>.inr (h.am b _ ho (by simp)) }
theorem PhA.ghost {ρ':Ro} {σ':Own} (hg:Ghost ρ σ ρ' σ') (h:PhA P W0 fr cs ρ σ gs w t q):PhA P W0 fr cs ρ' σ' gs w t q :=
  { h with
    sat:=hg.sat _ h.sat
    nr:=fun c' vs' hc'=>h.nr c' vs' ((hg.ends _ _).1 hc')
    newk:=fun b hb=>h.newk b (hg.keys b hb) }
theorem Qf (g:Goroutine) (k:Array CommCase) (s:CommShape):awake (parked g k s):=fun t e=>by cases e
theorem PhB.awake (h:PhB P W0 fr cs ρ σ c vs fw cw ρw σw j Am Aw Sh mp wp gs w t q):∀ g ∈ gs,Conc.awake g:=by
 intro g hg
 obtain ⟨i,hi⟩:=Array.getElem?_of_mem hg
 by_cases hi0:i = 0
 ·subst hi0
  cases hm:mp with
  | none=>obtain ⟨x,hx,his⟩:=h.g0 hm; rw [hx] at hi; cases hi; exact Ip his.1
  | some z=>rw [h.g0p z hm] at hi; cases hi; exact Qf _ _ _
 ·by_cases hij:i = j
  ·subst hij
   cases hm:wp with
   | none=>obtain ⟨x,hx,his⟩:=h.gj hm; rw [hx] at hi; cases hi; exact Ip his.1
   | some z=>obtain ⟨v,z⟩:=z; rw [h.gjp v z hm] at hi; cases hi; exact Qf _ _ _
  ·rcases (h.oth i g hi0 hij hi).status with hs | hs <;> intro t e <;> rw [hs] at e <;> cases e
/-- A leaver's step. -/
theorem PhB.leave {i k:Nat} {g g':Goroutine} (h:PhB P W0 fr cs ρ σ c vs fw cw ρw σw j Am Aw Sh mp wp gs w t q) (hi:gs[i]? = some g) (hi0:i ≠ 0) (hij:i ≠ j) (hq:QuitsIn P k g') :
  PhB P W0 fr cs ρ σ c vs fw cw ρw σw j Am Aw Sh mp wp ((gs.map (woken P g g' w)).setIfInBounds i g') w t (Go.ConcN.upd q i k):=by
 obtain ⟨s,r,tm,hh⟩:=h.ch
 exact { h with
  g0:=fun e=>by
   obtain ⟨x,hx,his⟩:=h.g0 e
   exact ⟨x,by rw [Ei (Ne.symm hi0) hx,Fo (.inl his.1)],his⟩
  g0p:=fun z e=>by rw [Ei (Ne.symm hi0) (h.g0p z e),woken_recv_open _ _ hh]
  gj:=fun e=>by
   obtain ⟨x,hx,his⟩:=h.gj e
   exact ⟨x,by rw [Ei (Ne.symm hij) hx,Fo (.inl his.1)],his⟩
  gjp:=fun v z e=>by rw [Ei (Ne.symm hij) (h.gjp v z e),woken_send_open _ _ hh]
  oth:=fun n x hn hnj hx=>by
   rcases Jv hx with ⟨rfl,rfl⟩ | ⟨hni,y,hy,rfl⟩
   ·rw [upd_same]; exact hq
   ·have:=h.oth n y hn hnj hy
    rw [Fo this.status,upd_ne q k hni]; exact this }
def WGo (P:Program) (c:Nat) (vs:List Value) (fw:Frame) (cw:List Frame) (ρw:Ro) (σw:Own):Option (Value × Value)→Prop
 | none=>SendI P c vs fw cw ρw σw
 | some (v,_)=>∃ vs',vs = v :: vs'∧SendI P c vs' (fw.finish undef) cw ρw σw
theorem Dw {gs:Array Goroutine} {i k:Nat} {x:Goroutine} (h:k ≠ i):(gs.setIfInBounds i x)[k]? = gs[k]?:=Array.getElem?_setIfInBounds_ne (Ne.symm h)
theorem Fq {gs:Array Goroutine} {i:Nat} {x y:Goroutine} (h:gs[i]? = some y):(gs.setIfInBounds i x)[i]? = some x :=
 Array.getElem?_setIfInBounds_self_of_lt (Array.getElem?_eq_some_iff.1 h).1
theorem Hq {w:World} {c cap s r:Nat} {buf:Array Value} {cl tm:Bool} (h:c < w.heap.size):(w.setChan c cap buf cl s r tm).heap[c]? = some (.chan cap buf cl s r tm):=by
 simp [World.setChan,h]
theorem Fi {w:World} {c cap s r k:Nat} {buf:Array Value} {cl tm:Bool} (h:k ≠ c):(w.setChan c cap buf cl s r tm).heap[k]? = w.heap[k]?:=by
 simp [World.setChan,Ne.symm h]
/-- THE TWO MEET at the channel. -/
theorem PhB.meet {i:Nat} {v:Value} {vs':List Value} {gs':Array Goroutine} {u:Trace} {s r:Nat} {tm:Bool} (h:PhB P W0 fr cs ρ σ c (v :: vs') fw cw ρw σw j Am Aw Sh mp wp gs w t q)
  (hi:σ[i]? = some (c,Res.recv (v :: vs'))) (h0:∃ g,gs'[0]? = some g∧Is g (fr.finish (.tuple #[v,.bool true])) cs) (hj:∃ g,gs'[j]? = some g∧Is g (fw.finish undef) cw)
  (ho:∀ k,k ≠ 0→k ≠ j→gs'[k]? = gs[k]?) (hw:Wordless u) (hu:∀ op ∈ u,op.act.touch? = none) :
  PhB P W0 (fr.finish (.tuple #[v,.bool true])) cs ρ (σ.set i (c,.recv vs')) c vs' (fw.finish undef) cw ρw σw j Am Aw Sh none none gs' (w.setChan c 0 #[] false s r tm) (t ++ u) q:=by
 have hclt:c < w.heap.size:=by obtain ⟨s,r,tm,hh⟩:=h.ch; exact Dq hh
 have hkeys:=Tt (r':=.recv vs') hi
 have hmem:∀ p,p ∈ σ.set i (c,Res.recv vs')→p = (c,.recv vs')∨(p ∈ σ∧p.1 ≠ c):=fun p hp=>Gq hi h.sat.nd hp
 have hcW:W0.heap.size ≤ c:=h.newk c (Du h.hc)
 refine {
  g0:=fun _=>h0
  g0p:=fun z e=>by cases e
  gj:=fun _=>hj
  gjp:=fun v z e=>by cases e
  j0:=h.j0
  oth:=fun k x hk hkj hx=>by rw [ho k hk hkj] at hx; exact h.oth k x hk hkj hx
  sat:=?_
  satw:=h.satw.kept fun b hb=>Fi fun e=>?_
  ch:=⟨s,r,tm,Hq hclt⟩
  hc:=?_
  one:=fun c' vs'' hc'=>?_
  nrw:=h.nrw
  newk:=by rw [hkeys]; exact h.newk
  neww:=h.neww
  below:=⟨h.below.os,h.below.tape,h.below.output,by simpa [World.setChan] using h.below.size,fun k hk=>by rw [Fi (by omega)]; exact h.below.block k hk⟩
  am:=fun b x hb hx=>?_
  aw:=h.aw
  rm:=h.rm
  rw_:=h.rw_
  dmw:=h.dmw
  dms:=h.dms
  dws:=h.dws
  ncm:=h.ncm
  ncw:=h.ncw
  ncs:=h.ncs
  lt:=fun b hb=>by simpa [World.setChan] using h.lt b hb
  tr:=h.tr.mute hw hu }
 ·refine ⟨fun b o hb=>?_,fun p hp=>?_,by rw [hkeys]; exact h.sat.nd,by rw [hkeys]; exact h.sat.dj⟩
  ·have hbc:b ≠ c:=fun e=>by
    have:=h.sat.dj c (Du h.hc)
    rw [← e,hb] at this; cases this
   rw [Fi hbc]; exact h.sat.ro b o hb
  ·rcases hmem p hp with rfl | ⟨hp',hpc⟩
   ·exact ⟨s,r,false,tm,Hq hclt⟩
   ·have:=h.sat.own p hp'
    obtain ⟨b,x⟩:=p
    simp only at hpc
    cases x with
    | obj o=>exact ⟨by rw [Fi hpc]; exact this.1,this.2⟩
    | chan=>obtain ⟨s,r,tm,hh⟩:=this; exact ⟨s,r,tm,by rw [Fi hpc]; exact hh⟩
    | recv ws=>obtain ⟨s,r,cl,tm,hh⟩:=this; exact ⟨s,r,cl,tm,by rw [Fi hpc]; exact hh⟩
 ·subst e
  rcases hb with hb | hb
  ·exact h.ncw (h.aw _ hb)
  ·exact (h.rw_ _ hb).elim h.ncs h.ncw
 ·have hlt:i < σ.length:=by
   rcases Nat.lt_or_ge i σ.length with h' | h'
   ·exact h'
   ·rw [List.getElem?_eq_none h'] at hi; cases hi
  exact List.mem_of_getElem? (i:=i) (by rw [List.getElem?_set]; simp [hlt])
 ·rcases hmem _ hc' with e | ⟨hc'',_⟩
  ·injection e with e _
  ·exact h.one _ _ hc''
 ·rcases hmem _ hb with e | ⟨hb',_⟩
  ·injection e with _ e; exact absurd e (hx vs')
  ·exact h.am b x hb' hx
/-- THE WORKER CLOSES. -/
theorem PhB.close {n:Nat} {g g':Goroutine} {s r:Nat} {tm:Bool} (h:PhB P W0 fr cs ρ σ c [] fw cw ρw σw j Am Aw Sh mp none gs w t q) (hgj:gs[j]? = some g) (hmw:mayWake P g = true) (hq:QuitsIn P n g') (fn:FuncId) (pos:String) :
  ∃ pc,PhC P W0 fr cs ρ σ c j Am Aw Sh pc ((gs.map (woken P g g' (w.setChan c 0 #[] true s r tm))).setIfInBounds j g') (w.setChan c 0 #[] true s r tm) (t ++ MemOp.ofEvents j fn pos #[⟨.obj c,false,true⟩,⟨.obj c,true,true⟩]) (Go.ConcN.upd q j n):=by
 have hclt:c < w.heap.size:=by obtain ⟨s,r,tm,hh⟩:=h.ch; exact Dq hh
 have hcW:W0.heap.size ≤ c:=h.newk c (Du h.hc)
 obtain ⟨pc,htc⟩:=h.tr.close fn pos ⟨h.ncm,h.ncs⟩
 refine ⟨pc,{
  g0:=?_
  oth:=fun i x hi hx=>?_
  sat:=?_
  ch:=⟨s,r,tm,Hq hclt⟩
  hc:=h.hc
  one:=h.one
  newk:=h.newk
  below:=⟨h.below.os,h.below.tape,h.below.output,by simpa [World.setChan] using h.below.size,fun k hk=>by rw [Fi (by omega)]; exact h.below.block k hk⟩
  am:=h.am
  rm:=h.rm
  dmw:=h.dmw
  dms:=h.dms
  dws:=h.dws
  ncm:=h.ncm
  ncs:=h.ncs
  lt:=fun b hb=>by simpa [World.setChan] using h.lt b hb
  tr:=htc }⟩
 ·cases hm:mp with
  | none =>
   obtain ⟨x,hx,his⟩:=h.g0 hm
   exact ⟨x,by rw [Ei (Ne.symm h.j0) hx,Fo (.inl his.1)],his⟩
  | some z =>
   refine ⟨{ parked (G fr cs) #[rcase c z] (.recv true) with status:=.running },?_,rfl,rfl,rfl,rfl⟩
   rw [Ei (Ne.symm h.j0) (h.g0p z hm)]
   have hst:(g'.status != .blocked && g'.status != .waiting) = true:=by rcases hq.status with hs | hs <;> rw [hs] <;> rfl
   have:woken P g g' (w.setChan c 0 #[] true s r tm) (parked (G fr cs) #[rcase c z] (.recv true)) = (parked (G fr cs) #[rcase c z] (.recv true)).again (w.setChan c 0 #[] true s r tm):=by
    unfold woken
    rw [if_pos (by rw [hmw,Bool.true_and]; exact hst)]
   rw [this,again_recv_closed (Hq hclt)]
 ·rcases Jv hx with ⟨rfl,rfl⟩ | ⟨hij,y,hy,rfl⟩
  ·rw [upd_same]; exact hq
  ·have:=h.oth i y hi hij hy
   rw [Fo this.status,upd_ne q n hij]; exact this
 ·refine ⟨fun b o hb=>?_,fun p hp=>?_,h.sat.nd,h.sat.dj⟩
  ·have hbc:b ≠ c:=fun e=>by
    have:=h.sat.dj c (Du h.hc)
    rw [← e,hb] at this; cases this
   rw [Fi hbc]; exact h.sat.ro b o hb
  ·have:=h.sat.own p hp
   obtain ⟨b,x⟩:=p
   cases x with
   | obj o =>
    have hpc:b ≠ c:=fun e=>by subst e; exact absurd (h.sat.uniq hp h.hc) (by simp)
    exact ⟨by rw [Fi hpc]; exact this.1,this.2⟩
   | chan =>
    have hpc:b ≠ c:=fun e=>by subst e; exact absurd (h.sat.uniq hp h.hc) (by simp)
    obtain ⟨s,r,tm,hh⟩:=this; exact ⟨s,r,tm,by rw [Fi hpc]; exact hh⟩
   | recv ws =>
    have:=h.one _ _ hp
    subst this
    exact ⟨s,r,true,tm,Hq hclt⟩
theorem Zl {gs:Array Goroutine} {q:Nat→Nat} {i k m:Nat} {g:Goroutine} (hi:gs[i]? = some g) (hk:q i = k + 1) (hm:sumTo gs.size q ≤ m + 1):sumTo gs.size (Go.ConcN.upd q i k) ≤ m:=by
 have hsum:=sumTo_upd q k id (Array.getElem?_eq_some_iff.1 hi).1
 simp only [id] at hsum
 have e1:sumTo gs.size (fun a=>Go.ConcN.upd q i k a) = sumTo gs.size (Go.ConcN.upd q i k):=rfl
 have e2:sumTo gs.size (fun a=>q a) = sumTo gs.size q:=rfl
 rw [e1,e2,hk] at hsum
 omega
/-- While the worker is parked,only the first goroutine and those who leave move. -/
theorem Adj {v z:Value} (hmain:∀ gs w sl t q,PhB P W0 fr cs ρ σ c vs fw cw ρw σw j Am Aw Sh none (some (v,z)) gs w t q→Out P Pst gs t (runT P (crowd gs w sl) 0)) :
  ∀ (m:Nat) (gs:Array Goroutine) (w:World) (sl:Option (Nat × Nat)) (t:Trace) (q:Nat→Nat),sumTo gs.size q ≤ m→PhB P W0 fr cs ρ σ c vs fw cw ρw σw j Am Aw Sh none (some (v,z)) gs w t q→My P Pst (crowd gs w sl) t:=by
 intro m
 induction m with
 | zero =>
  intro gs w sl t q hm h
  obtain ⟨x,hx,his⟩:=h.g0 rfl
  refine Jn h.awake ⟨0,x,hx,his.1⟩ fun i g d sl' hi hg=>?_
  by_cases hi0:i = 0
  ·subst hi0; exact hmain gs _ sl' t q (h.at_ d)
  ·by_cases hij:i = j
   ·subst hij; rw [h.gjp v z rfl] at hi; cases hi; cases hg
   ·obtain ⟨g',k,hk,_⟩:=Hf (w:=w) (sl:=sl) hi hi0 hg (h.oth i g hi0 hij hi)
    have:=Go.ConcN.le_sumTo (f:=q) (Array.getElem?_eq_some_iff.1 hi).1
    omega
 | succ m ih =>
  intro gs w sl t q hm h
  obtain ⟨x,hx,his⟩:=h.g0 rfl
  refine Jn h.awake ⟨0,x,hx,his.1⟩ fun i g d sl' hi hg=>?_
  by_cases hi0:i = 0
  ·subst hi0; exact hmain gs _ sl' t q (h.at_ d)
  ·by_cases hij:i = j
   ·subst hij; rw [h.gjp v z rfl] at hi; cases hi; cases hg
   ·obtain ⟨g',k,hk,hq,hrun⟩:=Hf (w:=w.at d) (sl:=sl') hi hi0 hg (h.oth i g hi0 hij hi)
    refine .inl ⟨_,_,hrun,?_⟩
    rw [Array.append_empty]
    exact ih _ _ sl' t _ (by simpa using Zl hi hk hm) ((h.at_ d).leave hi hi0 hij hq)
theorem Io {gs:Array Goroutine} {i:Nat} {send:Bool} (h:∀ k g,k ≠ i→gs[k]? = some g→offersAt g c send = []):partners (gs.setIfInBounds i ph) c send = [] :=
 partners_nil fun k x hx=>by
  rcases getElem?_stand gs i k x hx with ⟨_,rfl⟩ | ⟨hk,hx⟩
  ·rfl
  ·exact h k x hk hx
theorem Gi {n:Nat} {g:Goroutine} {send:Bool} (h:QuitsIn P n g):offersAt g c send = [] :=
 offersAt_of_not_blocked (by rcases h.status with hs | hs <;> rw [hs] <;> simp) c send
/-- Beside a worker that runs: it is enough to look at its step and at the first goroutine's. -/
theorem Nb (hself:SendI P c vs fw cw ρw σw)
  (hmain:mp = none→∀ gs w sl t q fw cw ρw σw Aw wp,WGo P c vs fw cw ρw σw wp→PhB P W0 fr cs ρ σ c vs fw cw ρw σw j Am Aw Sh none wp gs w t q→Out P Pst gs t (runT P (crowd gs w sl) 0))
  (hwork:∀ gs w sl t q Aw g,PhB P W0 fr cs ρ σ c vs fw cw ρw σw j Am Aw Sh mp none gs w t q→gs[j]? = some g→Is g fw cw→Out P Pst gs t (runT P (crowd gs w sl) j)) :
  ∀ (m:Nat) (gs:Array Goroutine) (w:World) (sl:Option (Nat × Nat)) (t:Trace) (q:Nat→Nat) (Aw:Nat→Prop),sumTo gs.size q ≤ m→PhB P W0 fr cs ρ σ c vs fw cw ρw σw j Am Aw Sh mp none gs w t q→My P Pst (crowd gs w sl) t:=by
 intro m
 induction m with
 | zero =>
  intro gs w sl t q Aw hm h
  obtain ⟨x,hx,his⟩:=h.gj rfl
  refine Jn h.awake ⟨j,x,hx,his.1⟩ fun i g d sl' hi hg=>?_
  by_cases hi0:i = 0
  ·subst hi0
   cases hmp:mp with
   | none=>subst hmp; exact hmain rfl gs _ sl' t q fw cw ρw σw Aw none hself (h.at_ d)
   | some z=>rw [h.g0p z hmp] at hi; cases hi; cases hg
  ·by_cases hij:i = j
   ·rw [hij] at hi ⊢
    rw [hx] at hi; cases hi
    exact hwork gs _ sl' t q Aw x (h.at_ d) hx his
   ·obtain ⟨g',k,hk,_⟩:=Hf (w:=w) (sl:=sl) hi hi0 hg (h.oth i g hi0 hij hi)
    have:=Go.ConcN.le_sumTo (f:=q) (Array.getElem?_eq_some_iff.1 hi).1
    omega
 | succ m ih =>
  intro gs w sl t q Aw hm h
  obtain ⟨x,hx,his⟩:=h.gj rfl
  refine Jn h.awake ⟨j,x,hx,his.1⟩ fun i g d sl' hi hg=>?_
  by_cases hi0:i = 0
  ·subst hi0
   cases hmp:mp with
   | none=>subst hmp; exact hmain rfl gs _ sl' t q fw cw ρw σw Aw none hself (h.at_ d)
   | some z=>rw [h.g0p z hmp] at hi; cases hi; cases hg
  ·by_cases hij:i = j
   ·rw [hij] at hi ⊢
    rw [hx] at hi; cases hi
    exact hwork gs _ sl' t q Aw x (h.at_ d) hx his
   ·obtain ⟨g',k,hk,hq,hrun⟩:=Hf (w:=w.at d) (sl:=sl') hi hi0 hg (h.oth i g hi0 hij hi)
    refine .inl ⟨_,_,hrun,?_⟩
    rw [Array.append_empty]
    exact ih _ _ sl' t _ Aw (by simpa using Zl hi hk hm) ((h.at_ d).leave hi hi0 hij hq)
/-- BESIDE A WORKER THAT RUNS. -/
theorem Ti (hW:SendI P c vs fw cw ρw σw):∀ (Am:Nat→Prop) (σ:Own)
  (_:mp = none→∀ gs w sl t q fw cw ρw σw Aw wp,WGo P c vs fw cw ρw σw wp→PhB P W0 fr cs ρ σ c vs fw cw ρw σw j Am Aw Sh none wp gs w t q→Out P Pst gs t (runT P (crowd gs w sl) 0))
  (_:∀ z v vs',mp = some z→vs = v :: vs'→∃ i,σ[i]? = some (c,Res.recv (v :: vs'))∧∀ gs w sl t q fw cw ρw σw Aw,SendI P c vs' fw cw ρw σw →
   PhB P W0 (fr.finish (.tuple #[v,.bool true])) cs ρ (σ.set i (c,.recv vs')) c vs' fw cw ρw σw j Am Aw Sh none none gs w t q→My P Pst (crowd gs w sl) t)
  (_:vs = []→∀ gs w sl t q Aw pc,PhC P W0 fr cs ρ σ c j Am Aw Sh pc gs w t q→My P Pst (crowd gs w sl) t)
  (m:Nat) (gs:Array Goroutine) (w:World) (sl:Option (Nat × Nat)) (t:Trace) (q:Nat→Nat) (Aw:Nat→Prop),sumTo gs.size q ≤ m→PhB P W0 fr cs ρ σ c vs fw cw ρw σw j Am Aw Sh mp none gs w t q→My P Pst (crowd gs w sl) t:=by
 induction hW with
 | ghost hg hs ih=>exact fun Am σ hmain hnext hclose m gs w sl t q Aw hm h=>ih Am σ hmain hnext hclose m gs w sl t q Aw hm (h.ghostw hg)
 | @step vs fw cw ρw σw K hst hK ih =>
  intro Am σ hmain hnext hclose
  refine Nb (.step K hst hK) hmain fun gs w sl t q Aw g h hgj his=>?_
  obtain ⟨fw',cw',w',es,σw',h1,h2,h3,h4⟩:=hst w h.satw
  have hb:(j == 0) = false:=by simpa using h.j0
  refine .inl ⟨_,_,runT_crowd_go hgj (by rw [hb,his.step]; exact h1),?_⟩
  exact ih _ _ _ h4 Am σ hmain hnext hclose _ _ _ _ _ _ _ (Nat.le_refl _) (h.work h2 h3 g hgj (Is.of _ _) _ _)
 | @send v vs' z fw cw ρw σw hat hs ih =>
  intro Am σ hmain hnext hclose
  refine Nb (.send hat hs) hmain fun gs w sl t q Aw g h hgj his=>?_
  have hb:(j == 0) = false:=by simpa using h.j0
  have hcomm:stepG P (j == 0) g w = .comm (G fw cw) #[scase c v z] true .send w #[]:=by rw [hb,his.step]; exact hat w
  obtain ⟨s,r,tm,hch⟩:=h.ch
  cases hmp:mp with
  | none =>
   subst hmp
   obtain ⟨x0,hx0,his0⟩:=h.g0 rfl
   have hp:partners (gs.setIfInBounds j ph) c false = []:=Io fun k y hk hy=>by
    by_cases hk0:k = 0
    ·subst hk0; rw [hx0] at hy; cases hy; exact offersAt_of_not_blocked (by rw [his0.1]; simp) c false
    ·exact Gi (h.oth k y hk0 hk hy)
   refine .inl ⟨_,_,crowd_waits hgj hcomm fun cc hcc=>?_,?_⟩
   ·have:cc = scase c v z:=by simpa using hcc
    subst this
    exact ways_send_none hch (by simp) hp
   ·have e1:MemOp.ofEvents j g.frame.fn g.frame.place #[] = #[]:=rfl
    rw [e1,Array.append_empty]
    refine Adj (v:=v) (z:=z) (fun gs w sl t q h'=>hmain rfl gs w sl t q fw cw ρw σw Aw (some (v,z)) ⟨vs',rfl,hs⟩ h') _ _ _ _ _ q (Nat.le_refl _) ?_
    exact { h with
     g0:=fun _=>⟨x0,by rw [Dw (Ne.symm h.j0)]; exact hx0,his0⟩
     g0p:=fun z e=>by cases e
     gj:=fun e=>by cases e
     gjp:=fun v' z' e=>by cases e; exact Fq hgj
     oth:=fun k y hk hkj hy=>by rw [Dw hkj] at hy; exact h.oth k y hk hkj hy }
  | some z0 =>
   have h0:=h.g0p z0 hmp
   have hp:partners (gs.setIfInBounds j ph) c false = [(0,0)]:=by
    rw [partners_one (stand_get (Ne.symm h.j0) h0) fun k y hk hy=>?_]
    ·simp [offersAt_parked_recv]
    ·rcases getElem?_stand gs j k y hy with ⟨_,rfl⟩ | ⟨hkj,hy⟩
     ·rfl
     ·exact Gi (h.oth k y hk hkj hy)
   obtain ⟨i,hi,hn⟩:=hnext z0 v vs' hmp rfl
   refine .inl ⟨_,_,crowd_send_meets hgj hcomm hch (Ne.symm h.j0) h0 hp,?_⟩
   refine hn _ _ _ _ q _ _ _ _ _ hs (h.meet hi ?_ ?_ ?_ ?_ ?_)
   ·refine ⟨_,?_,(Is.of fr cs).served _⟩
    rw [Dw (Ne.symm h.j0),Fq h0]
    rfl
   ·refine ⟨_,?_,(Is.of fw cw).served _⟩
    rw [Fq (y:=g) (by rw [Dw h.j0]; exact hgj)]
    rfl
   ·intro k hk hkj
    rw [Dw hkj,Dw hk]
   ·intro op hop m hm
    have:MemOp.ofEvents j g.frame.fn g.frame.place #[] = #[]:=rfl
    simp only [this,Array.empty_append] at hop
    simp only [List.mem_toArray,List.mem_cons,List.not_mem_nil,or_false] at hop
    rcases hop with rfl | rfl | rfl | rfl <;> cases hm
   ·intro op hop
    have:MemOp.ofEvents j g.frame.fn g.frame.place #[] = #[]:=rfl
    simp only [this,Array.empty_append] at hop
    simp only [List.mem_toArray,List.mem_cons,List.not_mem_nil,or_false] at hop
    rcases hop with rfl | rfl | rfl | rfl <;> rfl
 | @close fw cw ρw σw hat =>
  intro Am σ hmain hnext hclose
  refine Nb (.close hat) hmain fun gs w sl t q Aw g h hgj his=>?_
  obtain ⟨hmw,n,g',hq,hst⟩:=hat
  obtain ⟨s,r,tm,hch⟩:=h.ch
  have hb:(j == 0) = false:=by simpa using h.j0
  have hmw':mayWake P g = true:=by
   rw [← hmw]; unfold mayWake; rw [his.2.1]; rfl
  obtain ⟨pc,hC⟩:=h.close (s:=s) (r:=r) (tm:=tm) hgj hmw' hq g.frame.fn g.frame.place
  exact .inl ⟨_,_,runT_crowd_go hgj (by rw [hb,his.step]; exact hst w s r tm hch),hclose rfl _ _ _ _ _ _ pc hC⟩
end
end
section
open Go Go.Conc Go.RowKit
open Go.ConcN (sumTo sumTo_upd upd_ne upd_same)
/-- The first goroutine stands at the step that ends the run; nobody is left to talk to. -/
def Agg (P:Program) (W0:World) (Pst:Value→World→Prop):Cy:=fun fr cs ρ σ =>
 Jp σ∧∀ W,Sat ρ σ W→Below W0.heap.size W0 W→(∀ b ∈ keys σ,W0.heap.size ≤ b)→∃ v W' es,stepG P true (G fr cs) W = .ended (.done v) W' es∧(∀ e ∈ es,EvOk ρ σ e)∧Pst v W'
section
variable {P:Program} {Pst:Value→World→Prop} {W0:World} {fr:Frame} {cs:List Frame} {ρ:Ro} {σ:Own}
/-- The three things that are shown of a place in the first goroutine's walk. -/
structure Fine (P:Program) (W0:World) (Pst:Value→World→Prop) (fr:Frame) (cs:List Frame) (ρ:Ro) (σ:Own):Prop where
 A:∀ gs w sl t q,PhA P W0 fr cs ρ σ gs w t q→My P Pst (crowd gs w sl) t
 B:∀ c vs j Am Aw Sh fw cw ρw σw wp gs w sl t q,WGo P c vs fw cw ρw σw wp→PhB P W0 fr cs ρ σ c vs fw cw ρw σw j Am Aw Sh none wp gs w t q→My P Pst (crowd gs w sl) t
 C:∀ c j Am Aw Sh pc gs w sl t q,PhC P W0 fr cs ρ σ c j Am Aw Sh pc gs w t q→My P Pst (crowd gs w sl) t
/-- It is enough to look at the first goroutine's own step. -/
theorem Pv (hA:∀ gs w sl t q,PhA P W0 fr cs ρ σ gs w t q→Out P Pst gs t (runT P (crowd gs w sl) 0))
  (hC:∀ c j Am Aw Sh pc gs w sl t q,PhC P W0 fr cs ρ σ c j Am Aw Sh pc gs w t q→Out P Pst gs t (runT P (crowd gs w sl) 0))
  (hB:(∀ c j Am Aw Sh pc gs w sl t q,PhC P W0 fr cs ρ σ c j Am Aw Sh pc gs w t q→My P Pst (crowd gs w sl) t) →
   ∀ c vs j Am Aw Sh fw cw ρw σw wp gs w sl t q,WGo P c vs fw cw ρw σw wp→PhB P W0 fr cs ρ σ c vs fw cw ρw σw j Am Aw Sh none wp gs w t q→Out P Pst gs t (runT P (crowd gs w sl) 0)):Fine P W0 Pst fr cs ρ σ:=by
 have hC':∀ c j Am Aw Sh pc gs w sl t q,PhC P W0 fr cs ρ σ c j Am Aw Sh pc gs w t q→My P Pst (crowd gs w sl) t:=by
  intro c j Am Aw Sh pc gs w sl t q h
  obtain ⟨g,hg,his⟩:=h.g0
  have hw:crowd gs w sl = crowd gs (w.at w.drawn) sl:=rfl
  rw [hw]
  refine Yg (g0:=g) (sz:=gs.size) his.1 (fun gs' q' d sl' h0 hsz ho=>?_) _ gs _ sl q (Nat.le_refl _) rfl hg h.oth
  exact hC c j Am Aw Sh pc gs' (w.at d) sl' t q' { (h.at_ d) with g0:=⟨g,h0,his⟩,oth:=ho }
 refine ⟨?_,?_,hC'⟩
 ·intro gs w sl t q h
  obtain ⟨g,hg,his⟩:=h.g0
  have hw:crowd gs w sl = crowd gs (w.at w.drawn) sl:=rfl
  rw [hw]
  refine Yg (g0:=g) (sz:=gs.size) his.1 (fun gs' q' d sl' h0 hsz ho=>?_) _ gs _ sl q (Nat.le_refl _) rfl hg h.oth
  exact hA gs' (w.at d) sl' t q' { (h.at_ d) with g0:=⟨g,h0,his⟩,oth:=ho }
 ·intro c vs j Am Aw Sh fw cw ρw σw wp gs w sl t q hW h
  cases wp with
  | none =>
   exact Ti hW Am σ (fun _ gs w sl t q fw cw ρw σw Aw wp hW h=>hB hC' c _ j Am Aw Sh fw cw ρw σw wp gs w sl t q hW h) (fun z v vs' e=>by cases e)
    (fun e gs w sl t q Aw pc h=>hC' c j Am Aw Sh pc gs w sl t q h) _ gs w sl t q Aw (Nat.le_refl _) h
  | some z =>
   obtain ⟨v,z⟩:=z
   exact Adj (fun gs w sl t q h=>hB hC' c _ j Am Aw Sh fw cw ρw σw (some (v,z)) gs w sl t q hW h) _ gs w sl t q (Nat.le_refl _) h
theorem Fine.ghost {ρ':Ro} {σ':Own} (hg:Ghost ρ σ ρ' σ') (h:Fine P W0 Pst fr cs ρ' σ'):Fine P W0 Pst fr cs ρ σ :=
 ⟨fun gs w sl t q h'=>h.A gs w sl t q (h'.ghost hg),fun c vs j Am Aw Sh fw cw ρw σw wp gs w sl t q hW h'=>h.B c vs j Am Aw Sh fw cw ρw σw wp gs w sl t q hW (h'.ghost hg),
  fun c j Am Aw Sh pc gs w sl t q h'=>h.C c j Am Aw Sh pc gs w sl t q (h'.ghost hg)⟩
theorem Aew {K:Frame→List Frame→Own→Prop} (hst:Aal (Iw P) fr cs ρ σ K) (hK:∀ fr' cs' σ',K fr' cs' σ'→Fine P W0 Pst fr' cs' ρ σ'):Fine P W0 Pst fr cs ρ σ:=by
 refine Pv (fun gs w sl t q h=>?_) (fun c j Am Aw Sh pc gs w sl t q h=>?_) (fun _ c vs j Am Aw Sh fw cw ρw σw wp gs w sl t q hW h=>?_)
 ·obtain ⟨g,hg,his⟩:=h.g0
  obtain ⟨fr',cs',w',es,σ',h1,h2,h3,h4⟩:=hst w h.sat
  have h1:stepG P true (G fr cs) w = .go (G fr' cs') w' es:=h1
  refine .inl ⟨_,_,runT_crowd_go hg (show stepG P (0 == 0) g w = _ from (his.step w).trans h1),?_⟩
  exact (hK _ _ _ h4).A _ _ _ _ _ (h.main h2 h3 g hg (Is.of _ _) _ _)
 ·obtain ⟨g,hg,his⟩:=h.g0
  obtain ⟨fr',cs',w',es,σ',h1,h2,h3,h4⟩:=hst w h.sat
  have h1:stepG P true (G fr cs) w = .go (G fr' cs') w' es:=h1
  refine .inl ⟨_,_,runT_crowd_go hg (show stepG P (0 == 0) g w = _ from (his.step w).trans h1),?_⟩
  exact (hK _ _ _ h4).C _ _ _ _ _ _ _ _ _ _ _ (h.main h2 h3 g hg (Is.of _ _) _ _)
 ·obtain ⟨g,hg,his⟩:=h.g0 rfl
  obtain ⟨fr',cs',w',es,σ',h1,h2,h3,h4⟩:=hst w h.sat
  have h1:stepG P true (G fr cs) w = .go (G fr' cs') w' es:=h1
  refine .inl ⟨_,_,runT_crowd_go hg (show stepG P (0 == 0) g w = _ from (his.step w).trans h1),?_⟩
  exact (hK _ _ _ h4).B _ _ _ _ _ _ _ _ _ _ _ _ _ _ _ _ hW (h.main h2 h3 g hg (Is.of _ _) _ _)
theorem Aex (h:Agg P W0 Pst fr cs ρ σ):Fine P W0 Pst fr cs ρ σ:=by
 obtain ⟨hn,hs⟩:=h
 refine Pv (fun gs w sl t q h=>?_) (fun c j Am Aw Sh pc gs w sl t q h=>absurd h.hc (hn _ _)) (fun _ c vs j Am Aw Sh fw cw ρw σw wp gs w sl t q hW h=>absurd h.hc (hn _ _))
 obtain ⟨g,hg,his⟩:=h.g0
 obtain ⟨v,W',es,h1,h2,h3⟩:=hs w h.sat h.below h.newk
 refine .inr ⟨_,_,_,runT_many_ended hg (show stepG P (0 == 0) g w = _ from (his.step w).trans h1),fun w0 sl0=>?_⟩
 obtain ⟨o1,o2⟩:=Abe h2 0 g.frame.fn g.frame.place
 have htr:=h.tr.own o1 fun op hop=>(o2 op hop).1
 refine ⟨v,rfl,h3,htr.clean,htr.handed,⟨fun x hx=>?_,rfl⟩,fun j x hx hj=>?_⟩
 ·obtain ⟨j,hj⟩:=List.mem_iff_getElem?.1 hx
  rw [List.getElem?_drop] at hj
  exact ⟨_,(h.oth (1 + j) x (by omega) (by simpa [crowd] using hj)).leaves⟩
 ·have hq:=h.oth j x hj hx
  refine ⟨q j,?_⟩
  rw [htr.wl.deaf]
  exact hq.hears _ _
theorem Aeu {d:Deferred} {i c:Nat} {vs:List Value} {fr':Frame} (hst:∀ W,stepG P true (G fr cs) W = .spawn (G fr' cs) (G (Gg P d) []) W #[]) (hn:Jp σ) (hi:σ[i]? = some (c,Res.chan)) (hS:SendI P c vs (Gg P d) [] ρ [])
  (hK:Fine P W0 Pst fr' cs ρ (σ.set i (c,.recv vs))):Fine P W0 Pst fr cs ρ σ:=by
 have hc:(c,Res.chan) ∈ σ:=List.mem_of_getElem? hi
 refine Pv (fun gs w sl t q h=>?_) (fun c j Am Aw Sh pc gs w sl t q h=>absurd h.hc (hn _ _)) (fun _ c vs j Am Aw Sh fw cw ρw σw wp gs w sl t q hW h=>absurd h.hc (hn _ _))
 obtain ⟨g,hg,his⟩:=h.g0
 refine .inl ⟨_,_,runT_crowd_spawn hg (show stepG P (0 == 0) g w = _ from (his.step w).trans (hst w)),?_⟩
 have hsz:0 < gs.size:=(Array.getElem?_eq_some_iff.1 hg).1
 have hkeys:=Tt (r':=Res.recv vs) hi
 have hmem:∀ p,p ∈ σ.set i (c,Res.recv vs)→p = (c,.recv vs)∨(p ∈ σ∧p.1 ≠ c):=fun p hp=>Gq hi h.sat.nd hp
 obtain ⟨s,r,tm,hch⟩:=h.sat.own _ hc
 have hset:(c,Res.recv vs) ∈ σ.set i (c,.recv vs):=by
  have hlt:i < σ.length:=by
   rcases Nat.lt_or_ge i σ.length with h' | h'
   ·exact h'
   ·rw [List.getElem?_eq_none h'] at hi; cases hi
  exact List.mem_of_getElem? (i:=i) (by rw [List.getElem?_set]; simp [hlt])
 refine hK.B c vs gs.size (fun b=>∃ x,(b,x) ∈ σ∧b ≠ c) (fun _=>False) (fun b=>(ρ b).isSome = true) (Gg P d) [] ρ [] none _ _ _ _ q hS {
  g0:=fun _=>⟨G fr' cs,by rw [Array.getElem?_push]; simp only [Array.size_setIfInBounds,Nat.ne_of_lt hsz,if_false]; exact Fq hg,Is.of _ _⟩
  g0p:=fun z e=>by cases e
  gj:=fun _=>⟨G (Gg P d) [],by rw [Array.getElem?_push]; simp,Is.of _ _⟩
  gjp:=fun v z e=>by cases e
  j0:=by omega
  oth:=fun k x hk hkj hx=>by
   have hk':gs[k]? = some x:=by
    rw [Array.getElem?_push] at hx
    simp only [Array.size_setIfInBounds,hkj,if_false] at hx
    rwa [Array.getElem?_setIfInBounds_ne (Ne.symm hk)] at hx
   exact h.oth k x hk hk'
  sat:=?_
  satw:=⟨h.sat.ro,fun p hp=>absurd hp List.not_mem_nil,List.nodup_nil,fun b hb=>absurd hb List.not_mem_nil⟩
  ch:=⟨s,r,tm,hch⟩
  hc:=hset
  one:=fun c' vs' hc'=>by
   rcases hmem _ hc' with e | ⟨hc'',_⟩
   ·injection e
   ·exact absurd hc'' (hn _ _)
  nrw:=fun c' vs' hc'=>by cases hc'
  newk:=by rw [hkeys]; exact h.newk
  neww:=fun b hb=>by cases hb
  below:=h.below
  am:=fun b x hb hx=>by
   rcases hmem _ hb with e | ⟨hb',hbc⟩
   ·injection e with _ e; exact absurd e (hx vs)
   ·exact ⟨x,hb',hbc⟩
  aw:=fun b hb=>by cases hb
  rm:=fun b hb=>.inl hb
  rw_:=fun b hb=>.inl hb
  dmw:=fun b _ h=>h
  dms:=fun b ⟨x,h1,_⟩ h2=>by rw [h.sat.dj b (Du h1)] at h2; cases h2
  dws:=fun b h _=>h
  ncm:=fun ⟨x,_,h1⟩=>h1 rfl
  ncw:=id
  ncs:=by rw [h.sat.dj c (Du hc)]; simp
  lt:=fun b hb=>by
   rcases hb with ⟨x,hb,_⟩ | hb | hb
   ·exact h.sat.key_lt (Du hb)
   ·exact hb.elim
   ·obtain ⟨o,ho⟩:=Option.isSome_iff_exists.1 hb
    exact Dq (h.sat.ro b o ho).1
  tr:=?_ }
 ·refine ⟨h.sat.ro,fun p hp=>?_,by rw [hkeys]; exact h.sat.nd,by rw [hkeys]; exact h.sat.dj⟩
  rcases hmem p hp with rfl | ⟨hp',_⟩
  ·exact ⟨s,r,false,tm,hch⟩
  ·exact h.sat.own p hp'
 ·have e1:MemOp.ofEvents 0 g.frame.fn g.frame.place #[] = #[]:=rfl
  rw [e1]
  exact h.tr.fork (by omega) (x:={ g:=0,fn:=g.frame.fn,pos:=g.frame.place,act:=.go gs.size }) (y:={ g:=gs.size,fn:=(G (Gg P d) []).frame.fn,pos:=g.frame.place,act:=.start }) ⟨rfl,rfl⟩ ⟨rfl,rfl⟩
theorem Aev {i c:Nat} {v z:Value} {vs:List Value} (hst:Sv P c z fr cs) (hi:σ[i]? = some (c,Res.recv (v :: vs)))
  (hK:Fine P W0 Pst (fr.finish (.tuple #[v,.bool true])) cs ρ (σ.set i (c,.recv vs))):Fine P W0 Pst fr cs ρ σ:=by
 have hc:(c,Res.recv (v :: vs)) ∈ σ:=List.mem_of_getElem? hi
 refine Pv (fun gs w sl t q h=>absurd hc (h.nr _ _)) (fun c' j Am Aw Sh pc gs w sl t q h=>?_) (fun hC c' vs' j Am Aw Sh fw cw ρw σw wp gs w sl t q hW h=>?_)
 ·obtain rfl:=h.one _ _ hc
  exact absurd (h.sat.uniq hc h.hc) (by simp)
 ·obtain rfl:=h.one _ _ hc
  have e:vs' = v :: vs:=by
   have:=h.sat.uniq h.hc hc
   injection this
  subst e
  obtain ⟨g,hg,his⟩:=h.g0 rfl
  obtain ⟨s,r,tm,hch⟩:=h.ch
  have hcomm:stepG P (0 == 0) g w = .comm (G fr cs) #[rcase c z] true (.recv true) w #[]:=(his.step w).trans (hst w)
  cases wp with
  | none =>
   obtain ⟨x,hx,hisx⟩:=h.gj rfl
   have hp:partners (gs.setIfInBounds 0 ph) c true = []:=Io fun k y hk hy=>by
    by_cases hkj:k = j
    ·subst hkj; rw [hx] at hy; cases hy; exact offersAt_of_not_blocked (by rw [hisx.1]; simp) c true
    ·exact Gi (h.oth k y hk hkj hy)
   refine .inl ⟨_,_,crowd_waits hg hcomm fun cc hcc=>?_,?_⟩
   ·have:cc = rcase c z:=by simpa using hcc
    subst this
    exact ways_recv_none hch hp
   ·have e1:MemOp.ofEvents 0 g.frame.fn g.frame.place #[] = #[]:=rfl
    rw [e1,Array.append_empty]
    refine Ti (mp:=some z) (fr:=fr) (cs:=cs) (ρ:=ρ) (j:=j) (Sh:=Sh) (W0:=W0) hW Am σ (fun e=>by cases e) (fun z' v' vs' _ e=>?_) (fun e=>by cases e) _ _ _ _ _ q Aw (Nat.le_refl _) ?_
    ·injection e with e1 e2
     subst e1 e2
     exact ⟨i,hi,fun gs w sl t q fw cw ρw σw Aw hS h'=>hK.B _ _ _ _ _ _ _ _ _ _ _ _ _ _ _ _ (show WGo P c vs fw cw ρw σw none from hS) h'⟩
    ·exact { h with
      g0:=fun e=>by cases e
      g0p:=fun z' e=>by cases e; exact Fq hg
      gj:=fun _=>⟨x,by rw [Dw h.j0]; exact hx,hisx⟩
      gjp:=fun v z e=>by cases e
      oth:=fun k y hk hkj hy=>by rw [Dw hk] at hy; exact h.oth k y hk hkj hy }
  | some p =>
   obtain ⟨v0,z0⟩:=p
   obtain ⟨vs1,e,hS⟩:=hW
   injection e with e1 e2
   subst e1 e2
   have hj:=h.gjp v z0 rfl
   have hp:partners (gs.setIfInBounds 0 ph) c true = [(j,0)]:=by
    rw [partners_one (stand_get h.j0 hj) fun k y hk hy=>?_]
    ·simp [offersAt_parked_send]
    ·rcases getElem?_stand gs 0 k y hy with ⟨_,rfl⟩ | ⟨hk0,hy⟩
     ·rfl
     ·exact Gi (h.oth k y hk0 hk hy)
   refine .inl ⟨_,_,crowd_recv_meets hg hcomm hch h.j0 hj hp,?_⟩
   refine hK.B _ _ _ _ _ _ _ _ _ _ _ _ _ _ _ q (show WGo P c vs _ cw ρw σw none from hS) (h.meet hi ?_ ?_ ?_ ?_ ?_)
   ·refine ⟨_,?_,(Is.of fr cs).served _⟩
    rw [Fq (y:=g) (by rw [Dw (Ne.symm h.j0)]; exact hg)]
    rfl
   ·refine ⟨_,?_,(Is.of fw cw).served _⟩
    rw [Dw h.j0,Fq hj]
    rfl
   ·intro k hk hkj
    rw [Dw hk,Dw hkj]
   ·intro op hop m hm
    have:MemOp.ofEvents 0 g.frame.fn g.frame.place #[] = #[]:=rfl
    simp only [this,Array.empty_append] at hop
    simp only [List.mem_toArray,List.mem_cons,List.not_mem_nil,or_false] at hop
    rcases hop with rfl | rfl | rfl | rfl <;> cases hm
   ·intro op hop
    have:MemOp.ofEvents 0 g.frame.fn g.frame.place #[] = #[]:=rfl
    simp only [this,Array.empty_append] at hop
    simp only [List.mem_toArray,List.mem_cons,List.not_mem_nil,or_false] at hop
    rcases hop with rfl | rfl | rfl | rfl <;> rfl
theorem TC.ended {t:Trace} {j c pc:Nat} {Aw Sh:Nat→Prop} (h:TC t j c pc Aw Sh) {x:MemOp} (hx:x.g = 0∧x.act = .recvClosed c):TA (t ++ #[x]):=by
 have hwl:Wordless #[x]:=fun op hop m hm=>by
  have:op = x:=by simpa using hop
  subst this; rw [hx.2] at hm; cases hm
 have hmute:∀ op ∈ #[x],op.act.touch? = none:=fun op hop=>by
  have:op = x:=by simpa using hop
  subst this; rw [hx.2]; rfl
 have hwl':=h.wl.append hwl
 have hxat:(t ++ #[x])[t.size]? = some x:=by rw [Array.getElem?_append_right (Nat.le_refl _)]; simp
 obtain ⟨op,h1,h2,h3⟩:=h.at_
 have hpc:=lt_size_of_getElem? h1
 have h1':(t ++ #[x])[pc]? = some op:=by rw [getElem?_append_old hpc]; exact h1
 have hcl:HappensBefore (t ++ #[x]) pc t.size:=.single (.inr ⟨.closed (c:=c) (by rw [Trace.act?,h1']; simp [h3]) (by rw [Trace.act?,hxat]; simp [hx.2]),hwl'.heard h1',hwl'.heard hxat⟩)
 refine ⟨hwl',fun said=>Ni (h.clean said) hmute,fun i a ha hm=>?_⟩
 rcases Di ha with h4 | ⟨op,_,h4,h5,_⟩
 ·rcases h.k0 i a h4 hm with h5 | ⟨h5,_⟩
  ·exact h5.app _
  ·exact ⟨t.size,x,hxat,hx.1,.inr ((h5.app _).hb hcl)⟩
 ·rw [hmute op h4] at h5; cases h5
theorem Ph {σ:Own} {i c:Nat} {x:Res} (hi:σ[i]? = some (c,x)) (nd:(keys σ).Nodup) {p:Nat × Res} (hp:p ∈ σ.eraseIdx i):p ∈ σ∧p.1 ≠ c:=by
 induction σ generalizing i with
 | nil=>cases hi
 | cons a σ ih =>
  simp only [keys,List.map_cons,List.nodup_cons] at nd
  cases i with
  | zero =>
   simp only [List.getElem?_cons_zero,Option.some.injEq] at hi
   subst hi
   simp only [List.eraseIdx_zero,List.tail_cons] at hp
   exact ⟨List.mem_cons_of_mem _ hp,fun e=>nd.1 (List.mem_map.2 ⟨p,hp,e⟩)⟩
  | succ i =>
   simp only [List.getElem?_cons_succ] at hi
   simp only [List.eraseIdx_cons_succ,List.mem_cons] at hp
   rcases hp with rfl | hp
   ·exact ⟨List.mem_cons_self ..,fun e=>nd.1 (by rw [e]; exact List.mem_map.2 ⟨_,List.mem_of_getElem? hi,rfl⟩)⟩
   ·obtain ⟨h1,h2⟩:=ih hi nd.2 hp
    exact ⟨List.mem_cons_of_mem _ h1,h2⟩
theorem Aet {i c:Nat} {z:Value} (hst:Sv P c z fr cs) (hi:σ[i]? = some (c,Res.recv []))
  (hK:Fine P W0 Pst (fr.finish (.tuple #[z,.bool false])) cs ρ (σ.eraseIdx i)):Fine P W0 Pst fr cs ρ σ:=by
 have hc:(c,Res.recv []) ∈ σ:=List.mem_of_getElem? hi
 refine Pv (fun gs w sl t q h=>absurd hc (h.nr _ _)) (fun c' j Am Aw Sh pc gs w sl t q h=>?_) (fun hC c' vs' j Am Aw Sh fw cw ρw σw wp gs w sl t q hW h=>?_)
 ·obtain rfl:=h.one _ _ hc
  obtain ⟨g,hg,his⟩:=h.g0
  obtain ⟨s,r,tm,hch⟩:=h.ch
  have hcomm:stepG P (0 == 0) g w = .comm (G fr cs) #[rcase c z] true (.recv true) w #[]:=(his.step w).trans (hst w)
  have hp:partners (gs.setIfInBounds 0 ph) c true = []:=Io fun k y hk hy=>Gi (h.oth k y hk hy)
  refine .inl ⟨_,_,crowd_recv_closed hg hcomm hch hp,?_⟩
  have e1:MemOp.ofEvents 0 g.frame.fn g.frame.place #[] = #[]:=rfl
  rw [e1,Array.empty_append]
  have hmem:∀ p,p ∈ σ.eraseIdx i→p ∈ σ∧p.1 ≠ c:=fun p hp=>Ph hi h.sat.nd hp
  have hsub:∀ b ∈ keys (σ.eraseIdx i),b ∈ keys σ:=fun b hb=>by
   obtain ⟨p,hp,rfl⟩:=List.mem_map.1 hb
   exact List.mem_map_of_mem (f:=Prod.fst) (hmem p hp).1
  exact hK.A _ _ _ _ q {
   g0:=⟨_,by rw [Fq hg]; rfl,(Is.of fr cs).served _⟩
   oth:=fun k y hk hy=>by rw [Dw hk] at hy; exact h.oth k y hk hy
   sat:=⟨h.sat.ro,fun p hp=>h.sat.own p (hmem p hp).1,(List.Sublist.map Prod.fst (List.eraseIdx_sublist σ i)).nodup h.sat.nd,fun b hb=>h.sat.dj b (hsub b hb)⟩
   nr:=fun c' vs' hc'=>by
    obtain ⟨h1,h2⟩:=hmem _ hc'
    exact h2 (h.one _ _ h1)
   newk:=fun b hb=>h.newk b (hsub b hb)
   below:=h.below
   tr:=h.tr.ended ⟨rfl,rfl⟩ }
 ·obtain rfl:=h.one _ _ hc
  have e:vs' = []:=by
   have:=h.sat.uniq h.hc hc
   injection this
  subst e
  obtain ⟨g,hg,his⟩:=h.g0 rfl
  obtain ⟨s,r,tm,hch⟩:=h.ch
  have hcomm:stepG P (0 == 0) g w = .comm (G fr cs) #[rcase c z] true (.recv true) w #[]:=(his.step w).trans (hst w)
  cases wp with
  | none =>
   obtain ⟨x,hx,hisx⟩:=h.gj rfl
   have hp:partners (gs.setIfInBounds 0 ph) c true = []:=Io fun k y hk hy=>by
    by_cases hkj:k = j
    ·subst hkj; rw [hx] at hy; cases hy; exact offersAt_of_not_blocked (by rw [hisx.1]; simp) c true
    ·exact Gi (h.oth k y hk hkj hy)
   refine .inl ⟨_,_,crowd_waits hg hcomm fun cc hcc=>?_,?_⟩
   ·have:cc = rcase c z:=by simpa using hcc
    subst this
    exact ways_recv_none hch hp
   ·have e1:MemOp.ofEvents 0 g.frame.fn g.frame.place #[] = #[]:=rfl
    rw [e1,Array.append_empty]
    refine Ti (mp:=some z) (fr:=fr) (cs:=cs) (ρ:=ρ) (j:=j) (Sh:=Sh) (W0:=W0) hW Am σ (fun e=>by cases e) (fun z' v' vs' _ e=>by cases e) (fun _ gs w sl t q Aw pc h'=>hC _ _ _ _ _ _ _ _ _ _ _ h') _ _ _ _ _ q Aw (Nat.le_refl _) ?_
    exact { h with
      g0:=fun e=>by cases e
      g0p:=fun z' e=>by cases e; exact Fq hg
      gj:=fun _=>⟨x,by rw [Dw h.j0]; exact hx,hisx⟩
      gjp:=fun v z e=>by cases e
      oth:=fun k y hk hkj hy=>by rw [Dw hk] at hy; exact h.oth k y hk hkj hy }
  | some p =>
   obtain ⟨v0,z0⟩:=p
   obtain ⟨vs1,e,_⟩:=hW
   cases e
/-- WHOEVER WALKS SO TO THE RETURN,WINS. -/
theorem Xa (h:GoesH (Iw P) (Agg P W0 Pst) fr cs ρ σ):Fine P W0 Pst fr cs ρ σ:=by
 induction h with
 | stop h=>exact Aex h
 | ghost hg _ ih=>exact ih.ghost hg
 | step K h1 _ ih=>exact Aew h1 ih
 | @ext fr cs ρ σ K h1 _ ih =>
  rcases h1 with ⟨d,i,c,vs,fr',h1,h2,h3,h4,h5⟩ | ⟨i,c,v,vs,z,h1,h2,h3⟩ | ⟨i,c,z,h1,h2,h3⟩
  ·exact Aeu h1 h2 h3 h4 (ih _ _ _ _ h5)
  ·exact Aev h1 h2 (ih _ _ _ _ h3)
  ·exact Aet h1 h2 (ih _ _ _ _ h3)
/-- A whole run,from its first frame: nothing is owned,what stands in old memory may be read. -/
theorem Zb {F:Frame} (h:GoesH (Iw P) (Agg P W0 Pst) F [] ρ []) (hro:∀ b o,ρ b = some o→W0.heap[b]? = some o∧o.isChan = false) :
  ∃ M last o w' t',runNT P (M + 1) (solo (G F []) W0) #[] = (.ended o w',t')∧runN P M (solo (G F []) W0) = .next last∧step P last = .ended o w'∧Go.Conc.Good P Pst last o w' t':=by
 have hw:My P Pst (crowd #[G F []] W0 none) #[]:=(Xa h).A #[G F []] W0 none #[] (fun _=>0) {
  g0:=⟨G F [],rfl,Is.of _ _⟩
  oth:=fun k y hk hy=>by
   match k with
   | 0=>exact absurd rfl hk
   | k + 1=>simp at hy
  sat:=⟨hro,fun p hp=>absurd hp List.not_mem_nil,List.nodup_nil,fun b hb=>absurd hb List.not_mem_nil⟩
  nr:=fun c' vs' hc'=>by cases hc'
  newk:=fun b hb=>by cases hb
  below:=Below.refl _ _
  tr:=TA.nil }
 exact hw
end
end
section
open Go
section
variable {C:Ctx} {e:Env} {ds:List Deferred} {ρ:Ro} {σ:Own} {K:Value→List Deferred→Ro→Own→Prop} {rd:Option Nat} {dd:Option Tmp}
variable {ty:TypeId} {pos:String} {af:Array Edge} {g:Option (Nat × Bool)} {x y:Operand} {v p:Value} {t t':TypeId} {P:Program}
theorem Qm {v:Value} (h:single v = true):v.cells = #[v]:=by
 cases v <;> first | rfl | (simp [single] at h)
/-- One cell of an owned block is stored. -/
theorem Cz {c:List Value} {r off j:Nat} (hz:∃ i,C.P.info? t = some i∧i.size = 1) (hx:Af e x = .pointer (some ⟨r,off,none⟩)) (hy:Af e y = v) (hs:single v = true)
  (hj:σ[j]? = some (r,.obj (.cells c.toArray t' (0,0)))) (hl:off < c.length) (h:K undef ds ρ (σ.set j (r,.obj (.cells (c.set off v).toArray t' (0,0))))) :
  wpS C.P ρ (execOp (Af e) ⟨dd,.store t x y,ty,pos,af,g⟩) σ (NextH C K rd ds ρ):=by
 refine Li (vs:=[v]) (c:=c) (c':=c.set off v) hz hx hy (Qm hs) rfl (by simpa using hs) hj (by simpa using Nat.succ_le_of_lt hl) ?_ h
 simp only [over]
/-- One element of an owned row that stands behind other cells is stored. -/
theorem Nq {β:Type} {f:β→Value} {pc:List Value} {xs:List β} {bv:β} {r i off j:Nat} (hz:∃ i,C.P.info? t = some i∧i.size = 1) (hx:Af e x = .pointer (some ⟨r,off,none⟩)) (hy:Af e y = f bv) (hs:single (f bv) = true)
  (hj:σ[j]? = some (r,.obj (.cells (pc ++ xs.map f).toArray t' (0,0)))) (ho:off = pc.length + i) (hi:i < xs.length) (h:K undef ds ρ (σ.set j (r,.obj (.cells (pc ++ (xs.set i bv).map f).toArray t' (0,0))))) :
  wpS C.P ρ (execOp (Af e) ⟨dd,.store t x y,ty,pos,af,g⟩) σ (NextH C K rd ds ρ):=by
 subst ho
 refine Cz hz hx hy hs hj (by simp; omega) ?_
 have e1:(pc ++ xs.map f).set (pc.length + i) (f bv) = pc ++ (xs.set i bv).map f:=by
  rw [List.set_append_right _ _ (by omega),List.map_set]; simp
 rw [e1]; exact h
/-- One element of an owned row that stands behind other cells is read. -/
theorem Mq {β:Type} {f:β→Value} {pc:List Value} {xs:List β} {bv:β} {r i off j:Nat} (hT:∃ d,C.P.underlying t = some d∧Qv d = false) (hx:Af e x = .pointer (some ⟨r,off,none⟩)) (hj:σ[j]? = some (r,.obj (.cells (pc ++ xs.map f).toArray t' (0,0)))) (ho:off = pc.length + i) (hb:xs[i]? = some bv) (h:K (f bv) ds ρ σ) :
  wpS C.P ρ (execOp (Af e) ⟨dd,.load t x,ty,pos,af,g⟩) σ (NextH C K rd ds ρ):=by
 subst ho
 exact Dt hT hx hj (by rw [List.getElem?_append_right (by omega)]; simp [List.getElem?_map,hb]) h
theorem Ajx {k:IntKind} {p q:Int} {tys:Array TypeId} (hx:Af e x = .int k p) (hy:Af e y = .int k q):Yld P ρ e (.call ⟨.builtin .min,#[x,y],tys⟩) ty (.int k (min p q)):=by
 refine Mc (args:=[x,y]) (vs:=[.int k p,.int k q]) (s:=fun _=>pure (.int k (min p q))) (by simp [hx,hy]) (fun cs=>?_) ?_
 ·have e0:builtin .min tys ty cs [.int k p,.int k q].toArray = (Builtin.min_ tys ty #[.int k p,.int k q]).bind fun v=>Sem.pure (Next.value v):=rfl
  rw [e0]
  have e1:Builtin.min_ tys ty #[.int k p,.int k q] = pure (.int k (min p q)):=by
   simp only [Builtin.min_,List.foldlM_cons,List.foldlM_nil,Builtin.min2]
   have:(if q < p then q else p) = min p q:=by split <;> omega
   rw [this]; rfl
  rw [e1]
 ·exact fun cs ρ' σ' _=>⟨rfl,rfl⟩
theorem Aqf {k:IntKind} {p q:Int} {tys:Array TypeId} (hx:Af e x = .int k p) (hy:Af e y = .int k q):Yld P ρ e (.call ⟨.builtin .max,#[x,y],tys⟩) ty (.int k (max p q)):=by
 refine Mc (args:=[x,y]) (vs:=[.int k p,.int k q]) (s:=fun _=>pure (.int k (max p q))) (by simp [hx,hy]) (fun cs=>?_) ?_
 ·have e0:builtin .max tys ty cs [.int k p,.int k q].toArray = (Builtin.max_ tys ty #[.int k p,.int k q]).bind fun v=>Sem.pure (Next.value v):=rfl
  rw [e0]
  have e1:Builtin.max_ tys ty #[.int k p,.int k q] = pure (.int k (max p q)):=by
   simp only [Builtin.max_,List.foldlM_cons,List.foldlM_nil,Builtin.max2]
   have:(if q > p then q else p) = max p q:=by split <;> omega
   rw [this]; rfl
  rw [e1]
 ·exact fun cs ρ' σ' _=>⟨rfl,rfl⟩
def Wu (P:Program):List Field→List Nat→Prop
 | [],[]=>True
 | f :: fs,n :: ns=>(∃ i,P.info? f.type = some i∧i.size = n)∧Wu P fs ns
 | _,_=>False
def Gs:List Field→List Nat→List (Nat × Nat)
 | f :: fs,n :: ns=>(f.offset,n) :: Gs fs ns
 | _,_=>[]
theorem Ux {P:Program} {Q:Array (Nat × Nat)→Own→Prop}:∀ (fs:List Field) (ns:List Nat) (acc:Array (Nat × Nat)),Wu P fs ns→Q (acc ++ (Gs fs ns).toArray) σ →
  wpS P ρ (List.foldlM (m:=Sem) (fun (bs:Array (Nat × Nat)) (f:Field)=>Functor.map bs.push (do pure (f.offset,← sizeOf f.type))) acc fs) σ Q
 | [],[],acc,_,h=>by
  have e1:acc ++ (Gs [] []).toArray = acc:=by simp [Gs]
  rw [e1] at h
  exact h
 | f :: fs,n :: ns,acc,hs,h=>by
  rw [List.foldlM_cons]
  show wpS P ρ (Sem.bind _ _) σ Q
  rw [Ad]
  show wpS P ρ (Sem.bind (Sem.bind (sizeOf f.type) _) _) σ _
  rw [Ad,Ad]
  refine Dx hs.1 ?_
  show wpS P ρ (List.foldlM _ (acc.push (f.offset,n)) fs) σ Q
  refine Ux fs ns _ hs.2 ?_
  have e1:acc.push (f.offset,n) ++ (Gs fs ns).toArray = acc ++ (Gs (f :: fs) (n :: ns)).toArray:=by
   apply Array.ext'; simp [Gs]
  rw [e1]; exact h
theorem Be {place:Nat→Option (Nat × Nat)} {c cs:List Value} {i off:Nat} {v:Value} {rest:List (Nat × Value)} (hv:v.cells = cs.toArray) (hp:place i = some (off,cs.length)) (hl:off + cs.length ≤ c.length) :
  Instr.fill place c.toArray ((i,v) :: rest) = Instr.fill place (over c off cs).toArray rest:=by
 simp only [Instr.fill,hp,hv]
 have hcond:(decide (cs.toArray.size ≠ cs.length) || decide (off + cs.toArray.size > c.toArray.size)) = false:=by
  simp only [List.size_toArray,Bool.or_eq_false_iff,decide_eq_false_iff_not]
  exact ⟨by simp,by omega⟩
 rw [if_neg (by simpa using hcond)]
 congr 1
 have:=Pd cs c off 0
 rw [← Array.foldl_toList]
 simp only [Array.toList_zipIdx,List.toList_toArray]
 rw [this,Nat.add_zero]
theorem Dn {fs:List Field} {ns:List Nat} {z:Value} {zc cs:List Value} {ps:List (Nat × Operand)} {vs:List (Nat × Value)} (hT:P.underlying t = some (.struct fs.toArray)) (hz:Fw P t z) (hzc:z.cells = zc.toArray) (hn:Wu P fs ns)
  (hp:ps.map (fun p=>(p.1,Af e p.2)) = vs) (hf:Instr.fill ((Gs fs ns)[·]?) zc.toArray vs = some cs.toArray):Yld P ρ e (.build t ps.toArray) ty (.agg cs.toArray) :=
 Mt (s:=Instr.build t (ps.toArray.map fun (p:Nat × Operand)=>(p.1,Af e p.2))) (fun _ _ _ _=>rfl) fun ρ' σ _=>by
  have hps:(ps.toArray.map fun (p:Nat × Operand)=>(p.1,Af e p.2)) = vs.toArray:=by rw [← hp]; simp
  rw [hps]
  unfold Instr.build
  show wpS P ρ' ((zeroValue t).bind _) σ _
  rw [Ad]
  refine Jz hz ?_
  show wpS P ρ' ((underlying t).bind _) σ _
  rw [Ad]
  refine Az hT ?_
  dsimp only
  show wpS P ρ' (Sem.bind _ _) σ _
  rw [Ad,Array.mapM_eq_foldlM,List.foldlM_toArray]
  refine Ux fs ns #[] hn ?_
  have e1:(fun (x:Nat)=>(#[] ++ (Gs fs ns).toArray)[x]?) = fun (x:Nat)=>(Gs fs ns)[x]?:=by funext x; simp
  simp only [e1,hzc,hf]
  exact ⟨rfl,rfl⟩
def EvB (e:Env):List (Nat × Operand)→List (Nat × Value)→Prop
 | [],[]=>True
 | p :: ps,q :: qs=>(p.1 = q.1∧Af e p.2 = q.2)∧EvB e ps qs
 | _,_=>False
theorem EvB.map {e:Env}:∀ {ps:List (Nat × Operand)} {qs:List (Nat × Value)},EvB e ps qs→ps.map (fun p=>(p.1,Af e p.2)) = qs
 | [],[],_=>rfl
 | p :: ps,q :: qs,h=>by
  rw [List.map_cons,EvB.map h.2,h.1.1,h.1.2]
 | [],_ :: _,h=>h.elim
 | _ :: _,[],h=>h.elim
theorem Val.single_l {α:Type} [Dat α] {ρ:Ro} {v:Value} {xs:List α} (h:Val ρ v xs):single v = true:=by
 obtain ⟨a,len,cap,h1,_⟩:=Cs.1 h
 rw [h1]; rfl
theorem Val.cells_l {α:Type} [Dat α] {ρ:Ro} {v:Value} {xs:List α} (h:Val ρ v xs):v.cells = [v].toArray:=Qm h.single_l
theorem Grow.single {α:Type} [Dat α] {ρ:Ro} {el:TypeId} {v:Value} {xs:List α} {gr:Own} (h:Grow ρ el v xs gr):single v = true:=by
 rcases h.2.2 with ⟨h1,_⟩ | ⟨r,cap,cs,rs,gb,h1,_⟩ <;> rw [h1] <;> rfl
theorem Cb {r off off0 off' i:Nat} {fs:Array Field} {f:Field} {n':Nat} (hT:P.underlying t = some (.struct fs)) (hi:fs[i]? = some f) (ho:f.offset = off0) (hF:∃ i,P.info? f.type = some i∧i.size = n') (hk:n' ≠ 0) (hx:Af e x = .pointer (some ⟨r,off,none⟩)) (ho':off + off0 = off') :
  Yld P ρ e (.fieldAddr t x i) ty (.pointer (some ⟨r,off',none⟩)):=Ajt hT hi ho hF hk hx ho'
theorem Cq {r off off' len k':Nat} {el:TypeId} {k:IntKind} {q:Int} (i:Nat) (hT:P.underlying t = some (.array len el)) (hE:∃ i,P.info? el = some i∧i.size = k') (hx:Af e x = .pointer (some ⟨r,off,none⟩)) (hy:Af e y = .int k q) (hq:q = (i:Int)) (hi:i < len) (ho:off + i * k' = off') :
  Yld P ρ e (.indexAddr t x y) ty (.pointer (some ⟨r,off',none⟩)):=Aju i hT hE hx hy hq hi ho
theorem Afy {r off off' len cap k':Nat} {el:TypeId} {k:IntKind} {q:Int} (i:Nat) (hT:P.underlying t = some (.slice el)) (hE:∃ i,P.info? el = some i∧i.size = k') (hx:Af e x = .slice (some ⟨r,off,none⟩) len cap) (hy:Af e y = .int k q) (hq:q = (i:Int)) (hi:i < len) (ho:off + i * k' = off') :
  Yld P ρ e (.indexAddr t x y) ty (.pointer (some ⟨r,off',none⟩)):=Ajv i hT hE hx hy hq hi ho
def Apk:List Value→Prop
 | []=>True
 | v :: vs=>single v = true∧Apk vs
theorem Zh:∀ {vs:List Value},Apk vs→∀ w ∈ vs,single w = true
 | [],_,w,h=>by cases h
 | v :: vs,hs,w,h=>by
  rcases List.mem_cons.1 h with rfl | h
  ·exact hs.1
  ·exact Zh hs.2 w h
theorem Aca {dir:ChanDir} {el:TypeId} {ti:TypeInfo} {k:IntKind} (hT:C.P.underlying t = some (.chan dir el)) (hi:C.P.info? el = some ti) (hx:Af e x = .int k 0) (h:∀ r,K (.chan (some r)) ds ρ ((r,.chan) :: σ)) :
  wpS C.P ρ (execOp (Af e) ⟨dd,.makeChan t x,ty,pos,af,g⟩) σ (NextH C K rd ds ρ):=by
 show wpS C.P ρ ((Instr.makeChan t (Af e x)).bind _) σ _
 refine Gd ?_
 rw [hx]
 show wpS C.P ρ ((underlying t).bind _) σ _
 rw [Ad]
 refine Az hT ?_
 show wpS C.P ρ ((typeInfo el).bind _) σ _
 rw [Ad]
 refine Gj hi ?_
 have hmx:¬ ((0:Int) < 0∨(0:Int) > IntKind.i64.max∨(ti.bytes:Int) * 0 > 2 ^ 48 - 112):=by
  have:IntKind.i64.max = 9223372036854775807:=by simp [IntKind.max,IntKind.signed,IntKind.bits]
  omega
 show wpS C.P ρ (if ((0:Int) < 0∨(0:Int) > IntKind.i64.max∨(ti.bytes:Int) * 0 > 2 ^ 48 - 112) then _ else _) σ _
 rw [if_neg hmx]
 show wpS C.P ρ ((newObj (.chan 0 #[] false 0 0 false)).bind _) σ _
 rw [Ad]
 exact .inr ⟨rfl,fun r=>h r⟩
end
section
variable {P:Program} {b:FB} {n:Nat} {l₀ rest:List Oper} {Q:Env→List Deferred→Ro→Own→Prop} {e:Env} {ds:List Deferred} {ρ:Ro} {σ:Own}
variable {d:Nat} {ty t:TypeId} {pos:String} {af:Array Edge} {g:Option (Nat × Bool)} {x:Operand} {v z:Value}
theorem Ars {c:Call} {df:Deferred} {i ch:Nat} {vs:List Value} (hw:Bz l₀.toArray ⟨none,.go c,ty,pos,af,g⟩ e = true) (hd:resolve (Af e) c ty = pure df) (hnil:∃ f fs,df.target = .fn f fs) (hn:Jp σ) (hi:σ[i]? = some (ch,Res.chan))
  (hS:SendI P ch vs (Gg P df) [] ρ []) (h:Ey (Iw P) b n l₀ rest Q e ds ρ (σ.set i (ch,.recv vs))):Ey (Iw P) b n l₀ (⟨none,.go c,ty,pos,af,g⟩ :: rest) Q e ds ρ σ:=by
 intro pre hpre hs hk tm k cs ht
 have ho:l₀.toArray[pre.length]? = some ⟨none,.go c,ty,pos,af,g⟩:=by subst hpre; simp
 rw [List.length_cons,List.range'_succ]
 have hrest:=h (pre ++ [⟨none,.go c,ty,pos,af,g⟩]) (by rw [hpre]; simp) hs hk
 rw [List.length_append,List.length_singleton] at hrest
 have hev:=ht.eval b ds (.inRegion l₀.toArray (pre.length :: List.range' (pre.length + 1) rest.length) :: k)
 have hex:execOp (Af e) ⟨none,.go c,ty,pos,af,g⟩ = (pure (.spawn df):Sem Next):=by
  show ((resolve (Af e) c ty).bind fun d=>pure (Next.spawn d)) = _
  rw [hd]; rfl
 refine .ext (K:=fun fr' cs' ρ' σ'=>fr' = (Fr b tm ds (.inRegion l₀.toArray (pre.length :: List.range' (pre.length + 1) rest.length) :: k)).finish undef∧cs' = cs∧ρ' = ρ∧σ' = σ.set i (ch,.recv vs))
  (.inl ⟨df,i,ch,vs,_,fun W=>?_,hn,hi,hS,rfl,rfl,rfl,rfl⟩) ?_
 ·have hst:=Np (C:=Iw P) (b:=b) (ds:=ds) (tm:=tm) (k:=k) (cs:=cs) (rest:=List.range' (pre.length + 1) rest.length) ho (by rw [Ij hs ht]; exact hw) (fun c' h'=>by cases h') W
  refine hst.trans ?_
  rw [hev,hex]
  have hk':(b.kind == CallKind.early) = false:=by cases hb:b.kind <;> simp_all <;> rfl
  obtain ⟨tg,ar⟩:=df
  obtain ⟨f,fs,hnil⟩:=hnil
  simp only at hnil
  subst hnil
  simp [stepG.apply,Sem.runT,pure,hk',GStep.after,Conc.G,Gg,Fr,seen,Iw]
 ·rintro _ _ _ _ ⟨rfl,rfl,rfl,rfl⟩
  rw [Ju ho]
  exact hrest tm k _ ht
theorem Ait {el:TypeId} {dir:ChanDir} {c:Nat} (hT:P.underlying t = some (.chan dir el)) (hz:Fw P el z) (hx:Af e x = .chan (some c)) (W:World) :
  (execOp (Af e) ⟨some d,.recv t x true,ty,pos,af,g⟩).runT P W #[] = (.ok (.comm #[Conc.rcase c z] true (.recv true)) W,#[]):=by
 obtain ⟨ti,h1,h2⟩:=hz
 show ((underlying t).bind _:Sem Next).runT P W #[] = _
 rw [Sem.runT_bind']
 have e1:(underlying t).runT P W #[] = (.ok (.chan dir el) W,#[]):=by
  show Sem.runT P (match P.underlying t with | some i=>pure i | none=>_) W #[] = _
  rw [hT]; rfl
 rw [e1]
 show ((zeroValue el).bind _:Sem Next).runT P W #[] = _
 rw [Sem.runT_bind']
 have e2:(zeroValue el).runT P W #[] = (.ok z W,#[]):=by
  show Sem.runT P ((typeInfo el).bind _) W #[] = _
  rw [Sem.runT_bind']
  have e3:(typeInfo el).runT P W #[] = (.ok ti W,#[]):=by
   show Sem.runT P (match P.info? el with | some i=>pure i | none=>_) W #[] = _
   rw [h1]; rfl
  rw [e3]
  simp only [h2]
  rfl
 rw [e2,hx]
 rfl
theorem Adl {el:TypeId} {dir:ChanDir} {c:Nat} (hT:P.underlying t = some (.chan dir el)) (hz:Fw P el z) (hx:Af e x = .chan (some c)) {i:Nat} {rs:List Nat} {tm:Array Value} {k:List Item} {cs:List Frame} (ho:l₀.toArray[i]? = some ⟨some d,.recv t x true,ty,pos,af,g⟩) (hw:Bz l₀.toArray ⟨some d,.recv t x true,ty,pos,af,g⟩ e = true)
  (hs:Fu n l₀.toArray = true) (hk:b.kind ≠ .early) (ht:EnvOf n tm e):Sv P c z (Fr b tm ds (.inRegion l₀.toArray (i :: rs) :: k)) cs:=by
 intro W
 have hev:=ht.eval b ds (.inRegion l₀.toArray (i :: rs) :: k)
 have hst:=Np (C:=Iw P) (b:=b) (ds:=ds) (tm:=tm) (k:=k) (cs:=cs) (rest:=rs) ho (by rw [Ij hs ht]; exact hw) (fun c' h'=>by cases h') W
 refine hst.trans ?_
 rw [hev]
 have hk':(b.kind == CallKind.early) = false:=by cases hb:b.kind <;> simp_all <;> rfl
 have hr:=Ait (P:=P) (d:=d) (ty:=ty) (pos:=pos) (af:=af) (g:=g) hT hz hx W
 simp only [Iw] at *
 simp [stepG.apply,-Sem.runT_eq,hr,hk',GStep.after,Conc.G,Fr,seen]
theorem Anh {el:TypeId} {dir:ChanDir} {c i:Nat} {vs:List Value} (hw:Bz l₀.toArray ⟨some d,.recv t x true,ty,pos,af,g⟩ e = true) (hT:P.underlying t = some (.chan dir el)) (hz:Fw P el z) (hx:Af e x = .chan (some c)) (hi:σ[i]? = some (c,Res.recv (v :: vs)))
  (h:Ey (Iw P) b n l₀ rest Q (upd e d (.tuple #[v,.bool true])) ds ρ (σ.set i (c,.recv vs))):Ey (Iw P) b n l₀ (⟨some d,.recv t x true,ty,pos,af,g⟩ :: rest) Q e ds ρ σ:=by
 intro pre hpre hs hk tm k cs ht
 have ho:l₀.toArray[pre.length]? = some ⟨some d,.recv t x true,ty,pos,af,g⟩:=by subst hpre; simp
 rw [List.length_cons,List.range'_succ]
 have hrest:=h (pre ++ [⟨some d,.recv t x true,ty,pos,af,g⟩]) (by rw [hpre]; simp) hs hk
 rw [List.length_append,List.length_singleton] at hrest
 refine .ext (K:=fun fr' cs' ρ' σ'=>fr' = (Fr b tm ds (.inRegion l₀.toArray (pre.length :: List.range' (pre.length + 1) rest.length) :: k)).finish (.tuple #[v,.bool true])∧cs' = cs∧ρ' = ρ∧σ' = σ.set i (c,.recv vs))
  (.inr (.inl ⟨i,c,v,vs,z,Adl hT hz hx ho hw hs hk ht,hi,rfl,rfl,rfl,rfl⟩)) ?_
 rintro _ _ _ _ ⟨rfl,rfl,rfl,rfl⟩
 rw [Ju ho]
 exact hrest _ k _ (Jj hs ht ho _)
theorem Afb {el:TypeId} {dir:ChanDir} {c i:Nat} (hw:Bz l₀.toArray ⟨some d,.recv t x true,ty,pos,af,g⟩ e = true) (hT:P.underlying t = some (.chan dir el)) (hz:Fw P el z) (hx:Af e x = .chan (some c)) (hi:σ[i]? = some (c,Res.recv []))
  (h:Ey (Iw P) b n l₀ rest Q (upd e d (.tuple #[z,.bool false])) ds ρ (σ.eraseIdx i)):Ey (Iw P) b n l₀ (⟨some d,.recv t x true,ty,pos,af,g⟩ :: rest) Q e ds ρ σ:=by
 intro pre hpre hs hk tm k cs ht
 have ho:l₀.toArray[pre.length]? = some ⟨some d,.recv t x true,ty,pos,af,g⟩:=by subst hpre; simp
 rw [List.length_cons,List.range'_succ]
 have hrest:=h (pre ++ [⟨some d,.recv t x true,ty,pos,af,g⟩]) (by rw [hpre]; simp) hs hk
 rw [List.length_append,List.length_singleton] at hrest
 refine .ext (K:=fun fr' cs' ρ' σ'=>fr' = (Fr b tm ds (.inRegion l₀.toArray (pre.length :: List.range' (pre.length + 1) rest.length) :: k)).finish (.tuple #[z,.bool false])∧cs' = cs∧ρ' = ρ∧σ' = σ.eraseIdx i)
  (.inr (.inr ⟨i,c,z,Adl hT hz hx ho hw hs hk ht,hi,rfl,rfl,rfl,rfl⟩)) ?_
 rintro _ _ _ _ ⟨rfl,rfl,rfl,rfl⟩
 rw [Ju ho]
 exact hrest _ k _ (Jj hs ht ho _)
end
end
section
open Go
section
variable {C:Ctx} {e:Env} {ds:List Deferred} {ρ:Ro} {σ:Own} {K:Value→List Deferred→Ro→Own→Prop} {rd:Option Nat} {dd:Option Tmp}
variable {ty:TypeId} {pos:String} {af:Array Edge} {g:Option (Nat × Bool)} {x y u:Operand} {v p:Value} {t t':TypeId} {P:Program}
/-- The fields are numbers,one cell each: these here,and those there. -/
def EqF (P:Program) (xs ys:Array Value):List Field→List Int→List Int→Prop
 | [],[],[]=>True
 | f :: fs,p :: ps,q :: qs=>((f.name ≠ "_")∧∃ k,P.underlying f.type = some (.int k)∧xs[f.offset]? = some (.int k p)∧ys[f.offset]? = some (.int k q))∧EqF P xs ys fs ps qs
 | _,_,_=>False
theorem Qr {cs:Array Value} {off:Nat} {Q:Value→Own→Prop} (hT:∃ d,P.underlying t = some d∧Qv d = false) (hc:cs[off]? = some v) (h:Q v σ):wpS P ρ (part t cs off) σ Q:=by
 show wpS P ρ ((isAgg t).bind _) σ Q
 rw [Ad]
 refine Hi hT ?_
 simp only [hc]
 exact h
theorem Afv {k:IntKind} {a b:Int} {d:Nat} {Q:Bool→Own→Prop} (hT:P.underlying t = some (.int k)) (h:Q (a == b) σ):wpS P ρ (Op.equalIn (d + 1) t (.int k a) (.int k b)) σ Q:=by
 show wpS P ρ ((underlying t).bind _) σ Q
 rw [Ad]
 refine Az hT ?_
 simp only [if_true]
 exact h
theorem Uv {xs ys:Array Value} {d:Nat} {K:(Option Bool × Unit)→Own→Prop}:∀ (fs:List Field) (ps qs:List Int),EqF P xs ys fs ps qs→K (if ps = qs then none else some false,()) σ →
    wpS P ρ (forIn fs ((none, ()) : Option Bool × Unit) fun (f : Field) (__s : Option Bool × Unit) =>
            if f.name ≠ "_" then do
              let __do_lift ← part f.type xs f.offset
              let __do_lift_1 ← part f.type ys f.offset
              let __do_lift ← Op.equalIn (d + 1) f.type __do_lift __do_lift_1
              if (!__do_lift) = true then pure (ForInStep.done (some false,())) else pure (ForInStep.yield (none,()))
            else pure (ForInStep.yield (none,()))) σ K
  | [],[],[],_,h=>h
  | f :: fs,p :: ps,q :: qs,⟨⟨hn,k,hT,hx,hy⟩,hr⟩,h=>by
    rw [List.forIn_cons]
    show wpS P ρ (Sem.bind _ _) σ K
    rw [Ad,if_pos hn]
    show wpS P ρ ((part f.type xs f.offset).bind _) σ _
    rw [Ad]
    refine Qr ⟨_,hT,rfl⟩ hx ?_
    show wpS P ρ ((part f.type ys f.offset).bind _) σ _
    rw [Ad]
    refine Qr ⟨_,hT,rfl⟩ hy ?_
    show wpS P ρ ((Op.equalIn (d + 1) f.type (.int k p) (.int k q)).bind _) σ _
    rw [Ad]
    refine Afv hT ?_
    cases hpq:(p == q) with
    | false =>
      have hne:¬ (p :: ps = q :: qs):=fun h=>by injection h with h1; subst h1; simp at hpq
      rw [if_neg hne] at h
      exact h
    | true =>
      have he:p = q:=eq_of_beq hpq
      refine Uv fs ps qs hr ?_
      have:(p :: ps = q :: qs)↔ps = qs:=by subst he; simp
      simp only [this] at h
      exact h
  | [],[],_ :: _,h,_=>h.elim
  | [],_ :: _,_,h,_=>h.elim
  | _ :: _,[],_,h,_=>h.elim
  | _ :: _,_ :: _,[],h,_=>h.elim
theorem Ms {fs:List Field} {xs ys:Array Value} {ps qs:List Int} {d:Nat} {Q:Bool→Own→Prop} (hT:P.underlying t = some (.struct fs.toArray)) (hs:P.stoodInHeld t = false) (hf:EqF P xs ys fs ps qs) (h:Q (decide (ps = qs)) σ) :
  wpS P ρ (Op.equalIn (d + 2) t (.agg xs) (.agg ys)) σ Q:=by
 show wpS P ρ ((underlying t).bind _) σ Q
 rw [Ad]
 refine Az hT ?_
 show wpS P ρ (Sem.bind program _) σ Q
 rw [Ad]
 show wpS P ρ (if P.stoodInHeld t then _ else _) σ Q
 rw [if_neg (by simp [hs])]
 simp only [List.forIn_toArray]
 show wpS P ρ (Sem.bind _ _) σ Q
 rw [Ad]
 refine Uv fs ps qs hf ?_
 by_cases he:ps = qs
 ·rw [if_pos he]; rw [decide_eq_true he] at h; exact h
 ·rw [if_neg he]; rw [decide_eq_false he] at h; exact h
/-- Structs of numbers are compared. -/
theorem Aci {fs:List Field} {xs ys:Array Value} {ps qs:List Int} (hT:P.underlying t = some (.struct fs.toArray)) (hs:P.stoodInHeld t = false) (hg:P.eqGuardType P.depth t = false) (hx:Af e x = .agg xs) (hy:Af e y = .agg ys) (hf:EqF P xs ys fs ps qs) :
  Yld P ρ e (.binOp .neq t x y t') ty (.bool (!decide (ps = qs))) :=
 Mt (s:=(do eqGuard .neq t x y (Af e x) (Af e y); binOp .neq t (Af e x) (Af e y))) (fun _ _ _ _=>rfl) fun ρ' σ _=>by
  rw [hx,hy]
  show wpS P ρ' (Sem.bind (eqGuard .neq t x y (.agg xs) (.agg ys)) _) σ _
  rw [Ad]
  show wpS P ρ' (if (!P.eqGuardType P.depth t) = true then _ else _) σ _
  rw [if_pos (by simp [hg])]
  show wpS P ρ' ((Op.equal t (.agg xs) (.agg ys)).bind _) σ _
  rw [Ad]
  exact Ms (d:=9998) hT hs hf ⟨rfl,rfl⟩
theorem Acg {fs:List Field} {xs ys:Array Value} {ps qs:List Int} (hT:P.underlying t = some (.struct fs.toArray)) (hs:P.stoodInHeld t = false) (hg:P.eqGuardType P.depth t = false) (hx:Af e x = .agg xs) (hy:Af e y = .agg ys) (hf:EqF P xs ys fs ps qs) :
  Yld P ρ e (.binOp .eql t x y t') ty (.bool (decide (ps = qs))) :=
 Mt (s:=(do eqGuard .eql t x y (Af e x) (Af e y); binOp .eql t (Af e x) (Af e y))) (fun _ _ _ _=>rfl) fun ρ' σ _=>by
  rw [hx,hy]
  show wpS P ρ' (Sem.bind (eqGuard .eql t x y (.agg xs) (.agg ys)) _) σ _
  rw [Ad]
  show wpS P ρ' (if (!P.eqGuardType P.depth t) = true then _ else _) σ _
  rw [if_pos (by simp [hg])]
  show wpS P ρ' ((Op.equal t (.agg xs) (.agg ys)).bind _) σ _
  rw [Ad]
  exact Ms (d:=9998) hT hs hf ⟨rfl,rfl⟩
def Ahx:Value→Nat
 | .slice (some a) _ _=>a.block
 | _=>0
theorem Nw {α:Type} [Dat α] {xs:List α} {gr:Own} {el el' off':Nat} {k:IntKind} {q:Int} (i:Nat) (hT:P.underlying t = some (.slice el')) (hE:∃ i,P.info? el' = some i∧i.size = Dat.k α) (hx:Af e x = v) (hv:Grow ρ el v xs gr) (hy:Af e y = .int k q) (hq:q = (i:Int)) (hi:i < xs.length) (ho:i * Dat.k α = off') :
  Yld P ρ e (.indexAddr t x y) ty (.pointer (some ⟨Ahx v,off',none⟩)):=by
 rcases hv.2.2 with ⟨_,h2⟩ | ⟨r,cap,cs,rs,gb,h1,_⟩
 ·rw [h2] at hi; simp at hi
 ·subst h1
  exact Afy i hT hE hx hy hq hi (by omega)
theorem Bdd {α:Type} [Dat α] {xs:List α} {a:α} {gr:Own} {el:TypeId} {w:Value} {off i:Nat} (hE:∃ i,C.P.info? t = some i∧i.size = Dat.k α) (hx:Af e x = .pointer (some ⟨Ahx v,off,none⟩)) (ho:off = i * Dat.k α) (hy:Af e y = w) (hw:Val ρ w a) (hv:Grow ρ el v xs gr) (hi:i < xs.length)
  (h:∀ gr',Grow ρ el v (xs.set i a) gr'→K undef ds ρ (gr' ++ σ)):wpS C.P ρ (execOp (Af e) ⟨dd,.store t x y,ty,pos,af,g⟩) (gr ++ σ) (NextH C K rd ds ρ):=by
 obtain ⟨wc,h1,h2,h3⟩:=hw.cells
 rcases hv.2.2 with ⟨_,h2⟩ | ⟨r,cap,cs,rs,gb,e1,e2,hr,hl,hc⟩
 ·rw [h2] at hi; simp at hi
 ·subst e1 e2
  have hwl:=Dat.len h1
  have hcl:=hr.len
  have hb:i * Dat.k α + Dat.k α ≤ xs.length * Dat.k α:=by rw [← Nat.succ_mul]; exact Nat.mul_le_mul_right _ hi
  -- the row,cut at the element
  obtain ⟨ca,cb,cc,f1,f2,f3,f4⟩:∃ ca cb cc,cs = ca ++ (cb ++ cc)∧ca.length = i * Dat.k α∧cb.length = Dat.k α∧Rows ρ (ca ++ (wc ++ cc)) (xs.set i a):=by
   clear hv h hx hl hc hb hcl ho
   induction xs generalizing cs i with
   | nil=>simp at hi
   | cons z zs ih =>
    obtain ⟨c1,c2,g1,g2,g3⟩:=hr
    have hz:=Dat.len g2
    cases i with
    | zero=>exact ⟨[],c1,c2,by simp [g1],by simp,hz,wc,c2,rfl,h1,g3⟩
    | succ i =>
     obtain ⟨ca,cb,cc,f1,f2,f3,f4⟩:=ih (i:=i) (by simpa using hi) _ g3
     refine ⟨c1 ++ ca,cb,cc,by rw [g1,f1]; simp,by rw [List.length_append,hz,f2,Nat.add_mul,Nat.one_mul,Nat.add_comm],f3,c1,ca ++ (wc ++ cc),by simp,g2,f4⟩
  refine Li (i:=0) (off:=off) (vs:=wc) (c:=cs ++ rs) (c':=(ca ++ (wc ++ cc)) ++ rs) hE hx hy h3 hwl (Dat.sgl h1) rfl (by rw [List.length_append,hcl,hwl,ho]; omega) ?_ ?_
  ·rw [Qe _ _ _ (by rw [List.length_append,hcl,hwl,ho]; omega),f1,ho,← f2,hwl,← f3]
   rw [List.append_assoc,List.take_left,← List.append_assoc ca,← List.drop_drop]
   simp [List.append_assoc]
  ·refine h ((r,.obj (.cells ((ca ++ (wc ++ cc)) ++ rs).toArray el (0,0))) :: gb) ⟨fun p hp=>?_,by rw [List.length_set]; exact hv.2.1,.inr ⟨r,cap,ca ++ (wc ++ cc),rs,gb,by rw [List.length_set],rfl,f4,?_,by rw [List.length_set]; exact hc⟩⟩
   ·rcases List.mem_cons.1 hp with rfl | hp
    ·exact ⟨_,rfl⟩
    ·exact hv.1 p (List.mem_cons_of_mem _ hp)
   ·rw [← hl,f1]; simp [hwl,f3]
end
section
variable {C:Ctx} {b:FB} {l₀:List Oper} {Q:Env→List Deferred→Ro→Own→Prop} {ds:List Deferred} {ρ₀ ρ₁:Ro} {pz:List Nat}
/-- More may be read from here on,in a drawn region. -/
theorem Pm (hl:((List.range l₀.length).all fun j=>!Pg l₀.toArray pz j) = true) (h01:Ro.le ρ₀ ρ₁):∀ {fuel:Nat} {li:Array Bool} {e:Env} {ds:List Deferred} {ρ:Ro} {σ:Own},Ro.le ρ₁ ρ→El C b l₀.toArray Q pz (leS ρ₁) fuel li e ds ρ σ→El C b l₀.toArray Q pz (leS ρ₀) fuel li e ds ρ σ
 | 0,li,e,ds,ρ,σ,_,h=>h
 | fuel + 1,li,e,ds,ρ,σ,hS,h=>by
  rcases h with h | ⟨ρ',σ',hg,h1,h2,h3⟩
  ·exact .inl h
  ·refine .inr ⟨ρ',σ',hg,fun _=>h01.trans (h1 hS),h2,fun i hi=>?_⟩
   have h4:=h3 i hi
   refine OpH.mono h4 fun e' ds' ρ'' σ'' ⟨h5,h6⟩=>?_
   have hi':i < l₀.length:=by
    have:=(List.mem_filter.1 (show i ∈ (List.range l₀.toArray.size).filter _ from hi)).1
    simpa using this
   have hlate:Pg l₀.toArray pz i = false:=by
    have:=List.all_eq_true.1 hl i (by simpa using hi')
    simpa using this
   have h7:=h5 hlate
   exact ⟨fun _=>h01.trans h7,Pm hl h01 h7 h6⟩
end
end
section
open Go
structure MapRef where
 r:Nat
instance:Dat MapRef where
 k:=1
 agg:=false
 rep _ cs x:=cs = [.map (some x.r)]
 mono _ h:=h
 len h:=by rw [h]; rfl
 sgl h:=by rw [h]; simp [single]
 one _:=rfl
/-- A pointer to data that is only read. -/
structure Ptr (α:Type) where
 v:α
instance {α:Type} [Dat α]:Dat (Ptr α) where
 k:=1
 agg:=false
 rep ρ cs x:=∃ p,cs = [p]∧At ρ p x.v
 mono h:=fun ⟨p,h1,h2⟩=>⟨p,h1,h2.mono h⟩
 len:=fun ⟨p,h1,_⟩=>by rw [h1]; rfl
 sgl:=fun ⟨p,h1,b,off,_,_,_,_,_,h2,_⟩ c hc=>by rw [h1,List.mem_singleton] at hc; rw [hc,h2]; rfl
 one _:=rfl
theorem Ir {α:Type} [Dat α] {ρ:Ro} {p:Value} {x:α}:Val ρ p (Ptr.mk x)↔At ρ p x :=
 ⟨fun ⟨cs,⟨q,h1,h2⟩,h3⟩=>by rw [h3,h1]; exact h2,fun h=>⟨[p],⟨p,rfl,h⟩,rfl⟩⟩
/-- Any value of one cell. -/
structure RawV where
 v:Value
instance:Dat RawV where
 k:=1
 agg:=false
 rep _ cs x:=cs = [x.v]∧single x.v = true
 mono _ h:=h
 len h:=by rw [h.1]; rfl
 sgl h:=by rw [h.1]; intro c hc; rw [List.mem_singleton] at hc; rw [hc]; exact h.2
 one _:=rfl
theorem Sp {ρ:Ro} {v:Value} (h:single v = true):Val ρ v (RawV.mk v):=⟨[v],⟨rfl,h⟩,rfl⟩
theorem Lb {P:Program} {ρ:Ro} {e:Env} {ty t:TypeId} {x:Operand} {p v:Value} (hT:GoTy P t RawV) (hx:Af e x = p) (hp:At ρ p (RawV.mk v)):Yld P ρ e (.load t x) ty v:=by
 obtain ⟨w,h1,h2⟩:=Ax (ty:=ty) hT hx hp
 obtain ⟨cs,h3,h4⟩:=h1
 rw [h4,h3.1] at h2; exact h2
/-- A number without a sign. -/
structure UW where
 n:Nat
deriving DecidableEq
instance:Dat UW where
 k:=1
 agg:=false
 rep _ cs x:=cs = [.int .u64 (x.n:Int)]
 mono _ h:=h
 len h:=by rw [h]; rfl
 sgl h:=by rw [h]; simp [single]
 one _:=rfl
theorem Rq {ρ:Ro} {v:Value} {x:UW}:Val ρ v x↔v = .int .u64 (x.n:Int) :=
 ⟨fun ⟨cs,h1,h2⟩=>by rw [h2,show cs = [.int .u64 (x.n:Int)] from h1]; rfl,fun h=>⟨[v],by rw [h]; rfl,rfl⟩⟩
/-- Five numbers. -/
structure Arr5 where
 l:List Int
instance:Dat Arr5 where
 k:=5
 agg:=true
 rep _ cs x:=cs = x.l.map (Value.int .i64)∧x.l.length = 5∧∀ a ∈ x.l,I64 a
 mono _ h:=h
 len h:=by rw [h.1,List.length_map,h.2.1]
 sgl h:=by rw [h.1]; intro c hc; obtain ⟨a,_,rfl⟩:=List.mem_map.1 hc; rfl
 one h:=by cases h
structure Bench where
 probes:List Probe
 all:Int
 depths:MapRef
instance:Dat Bench:=.iso fun x=>(x.probes,(x.all,x.depths))
theorem Bench.f_probes:Fld Bench (List Probe) 0 Bench.probes:=⟨fun ρ cs x=>(Fld.fst:Fld (List Probe × (Int × MapRef)) (List Probe) 0 _).at_ ρ cs (x.probes,(x.all,x.depths))⟩
theorem Bench.f_all:Fld Bench Int 1 Bench.all:=⟨fun ρ cs x=>((.snd Fld.fst):Fld (List Probe × (Int × MapRef)) Int 1 _).at_ ρ cs (x.probes,(x.all,x.depths))⟩
theorem Bench.f_depths:Fld Bench MapRef 2 Bench.depths:=⟨fun ρ cs x=>((.snd (.snd Fld.self)):Fld (List Probe × (Int × MapRef)) MapRef 2 _).at_ ρ cs (x.probes,(x.all,x.depths))⟩
theorem Bench.shut {ρ:Ro} {x:Bench} {c0:Value} (h0:Val ρ c0 x.probes) (h1:I64 x.all):Val ρ (.agg #[c0,.int .i64 x.all,.map (some x.depths.r)]) x :=
 ⟨[c0,.int .i64 x.all,.map (some x.depths.r)],⟨[c0],[.int .i64 x.all] ++ [.map (some x.depths.r)],rfl,⟨c0,rfl,Cs.1 h0⟩,[.int .i64 x.all],[.map (some x.depths.r)],rfl,⟨rfl,h1⟩,rfl⟩,rfl⟩
/-- A market with what each house can give. -/
structure GMarket where
 m:Market
 gives:Arr5
instance:Dat GMarket:=.iso fun x=>(x.m,x.gives)
theorem GMarket.f_m:Fld GMarket Market 0 GMarket.m:=⟨fun ρ cs x=>(Fld.fst:Fld (Market × Arr5) Market 0 _).at_ ρ cs (x.m,x.gives)⟩
theorem GMarket.f_gives:Fld GMarket Arr5 4 GMarket.gives:=⟨fun ρ cs x=>((.snd Fld.self):Fld (Market × Arr5) Arr5 4 _).at_ ρ cs (x.m,x.gives)⟩
theorem Adt:GoTy Tryd.prog 161 MapRef:=⟨⟨_,Blp,rfl⟩,⟨_,Ab Tryd.typeInfo161,rfl⟩⟩
theorem Sc:GoTy Tryd.prog 109 (Ptr Bench):=⟨⟨_,Tryd.underlying109,rfl⟩,⟨_,Ab Blt,rfl⟩⟩
theorem Aqa:GoTy Tryd.prog 118 RawV:=⟨⟨_,Tryd.underlying118,rfl⟩,⟨_,Ab Tryd.typeInfo118,rfl⟩⟩
theorem Aqc:GoTy Tryd.prog 139 RawV:=⟨⟨_,Tryd.underlying139,rfl⟩,⟨_,Ab Tryd.typeInfo139,rfl⟩⟩
theorem Zt:GoTy Tryd.prog 128 UW:=⟨⟨_,Tryd.underlying128,rfl⟩,⟨_,Ab Bko,rfl⟩⟩
theorem Aqb:GoTy Tryd.prog 133 (List UW):=⟨⟨_,Bjc,rfl⟩,⟨_,Ab Tryd.typeInfo133,rfl⟩⟩
theorem Ads:GoTy Tryd.prog 124 Arr5:=⟨⟨_,Biq,rfl⟩,⟨_,Ab Bit,rfl⟩⟩
theorem Wk:GoTy Tryd.prog 127 GMarket:=⟨⟨_,Bjk,rfl⟩,⟨_,Ab Bkn,rfl⟩⟩
theorem Va {P:Program} {ρ:Ro} {e:Env} {ty t:TypeId} {x:Operand} {p:Value} {a:MapRef} (hT:GoTy P t MapRef) (hx:Af e x = p) (hp:At ρ p a):Yld P ρ e (.load t x) ty (.map (some a.r)):=by
 obtain ⟨v,h1,h2⟩:=Ax (ty:=ty) hT hx hp
 obtain ⟨cs,h3,h4⟩:=h1
 rw [h4,show cs = [.map (some a.r)] from h3] at h2; exact h2
theorem Aga {P:Program} {ρ:Ro} {e:Env} {ty t:TypeId} {x:Operand} {p:Value} {a:UW} (hT:GoTy P t UW) (hx:Af e x = p) (hp:At ρ p a):Yld P ρ e (.load t x) ty (.int .u64 (a.n:Int)):=by
 obtain ⟨v,h1,h2⟩:=Ax (ty:=ty) hT hx hp
 rw [Rq.1 h1] at h2; exact h2
/-- Two package-level variables,which nobody writes to. -/
structure Glob (ρ:Ro):Prop where
 over:∃ t fz,ρ 2 = some (.cells #[.int .i64 0,.int .i64 0] t fz)
 can:∃ t fz,ρ 3 = some (.cells #[.func (.func 133) #[] #[],.func (.func 115) #[] #[]] t fz)
theorem Glob.mono {ρ ρ':Ro} (h:Ro.le ρ ρ') (hg:Glob ρ):Glob ρ' :=
 ⟨let ⟨t,fz,h1⟩:=hg.over; ⟨t,fz,h _ _ h1⟩,let ⟨t,fz,h1⟩:=hg.can; ⟨t,fz,h _ _ h1⟩⟩
section
variable {C:Ctx} {e:Env} {ds:List Deferred} {ρ:Ro} {σ:Own} {K:Value→List Deferred→Ro→Own→Prop} {rd:Option Nat} {dd:Option Tmp}
variable {ty:TypeId} {pos:String} {af:Array Edge} {g:Option (Nat × Bool)} {x y u:Operand} {v p:Value} {t t':TypeId} {P:Program}
theorem Ck {a:Addr} (hx:Af e x = .pointer (some a)):Yld P ρ e (.nilCheck x) ty (.pointer (some a)):=fun ρ' σ d pos af g _=>by
 unfold execOp
 simp only [hx]
 exact ⟨rfl,rfl⟩
theorem At.ptr {α:Type} [Dat α] {a:α} (h:At ρ p a):∃ ad,p = .pointer (some ad):=let ⟨b,off,_,_,_,_,_,h1,_⟩:=h; ⟨_,h1⟩
theorem Hj {α:Type} [Dat α] {a:α} (hx:Af e x = p) (h:At ρ p a):Yld P ρ e (.nilCheck x) ty p:=by
 obtain ⟨ad,rfl⟩:=h.ptr
 exact Ck hx
theorem Il {fn:Fn} {caps:List Operand} {vs:List Value} (hv:EvL e caps vs):Yld P ρ e (.makeFunc fn #[] caps.toArray) ty (.func fn #[] vs.toArray):=fun ρ' σ d pos af g _=>by
 show wpS P ρ' ((Instr.makeFunc fn ((#[]:Array Operand).map (Af e)) (caps.toArray.map (Af e))).bind fun v=>Sem.pure (Next.value v)) σ _
 have e0:(#[]:Array Operand).map (Af e) = #[]:=by simp
 rw [hv.map,e0]
 exact ⟨rfl,rfl⟩
/-- One cell of a block that is only read. -/
theorem Aae {b off:Nat} {c:Array Value} {fz:Nat × Nat} (hT:∃ d,P.underlying t = some d∧Qv d = false) (hx:Af e x = .pointer (some ⟨b,off,none⟩)) (hb:ρ b = some (.cells c t' fz)) (hc:c[off]? = some v):Yld P ρ e (.load t x) ty v :=
 Mt (s:=Instr.loadAt t (Af e x)) (fun _ _ _ _=>rfl) fun ρ' σ hle=>by
  rw [hx]
  show wpS P ρ' ((isAgg t).bind _) σ _
  rw [Ad]
  refine Hi hT ?_
  exact ⟨rfl,rfl,_,v,.inl (hle _ _ hb),by simpa [Gy] using hc,rfl,rfl⟩
/-- A closure,or another function value,that is called. -/
theorem Sq {f:FuncId} {fn:Func} {args:List Operand} {tys:Array TypeId} {vs caps:List Value} {R:Value→Ro→Own→Prop} (hx:Af e x = .func (.func f) #[] caps.toArray) (hc:CallsH C f (vs ++ caps).toArray ρ σ R) (hf:C.P.funcs[f]? = some fn) (hn:(fn.name == "runtime.NumGoroutine") = false) (hb:fn.body.isNone = false)
  (hv:EvL e args vs) (h:∀ v ρ' σ',R v ρ' σ'→K v ds ρ' σ'):wpS C.P ρ (execOp (Af e) ⟨dd,.call ⟨.value x,args.toArray,tys⟩,ty,pos,af,g⟩) σ (NextH C K rd ds ρ):=by
 have hv':=hv.map
 show wpS C.P ρ ((Deferred.ofValue (Af e x) (args.toArray.map (Af e))).bind _) σ _
 rw [hx,hv']
 show wpS C.P ρ (callFunc f ((#[] ++ vs.toArray) ++ caps.toArray)) σ _
 have e1:((#[] ++ vs.toArray) ++ caps.toArray:Array Value) = (vs ++ caps).toArray:=by simp
 rw [e1]
 exact Mr hf hn hb (hc.mono h)
theorem Ur {f:FuncId} {fn:Func} {args:List Operand} {tys:Array TypeId} {vs caps:List Value} (hx:Af e x = .func (.func f) #[] caps.toArray) (hc:CallsH C f (vs ++ caps).toArray ρ σ (fun w ρ' σ'=>ρ' = ρ∧σ' = σ∧w = v)) (hf:C.P.funcs[f]? = some fn) (hn:(fn.name == "runtime.NumGoroutine") = false) (hb:fn.body.isNone = false)
  (hv:EvL e args vs) (h:K v ds ρ σ):wpS C.P ρ (execOp (Af e) ⟨dd,.call ⟨.value x,args.toArray,tys⟩,ty,pos,af,g⟩) σ (NextH C K rd ds ρ) :=
 Sq hx hc hf hn hb hv (by rintro w ρ' σ' ⟨rfl,rfl,rfl⟩; exact h)
end
/-- Called with such data,while this may be read,the function yields p of it and leaves everything as it was. -/
def PredR {α:Type} [Dat α] (ρ₀:Ro) (f:Value) (D:α→Prop) (p:α→Bool):Prop :=
 ∃ (k:FuncId) (fn:Func) (caps:List Value),f = .func (.func k) #[] caps.toArray∧Tryd.prog.funcs[k]? = some fn∧(fn.name == "runtime.NumGoroutine") = false∧fn.body.isNone = false ∧
  ∀ (mn:Bool) (X:Frame→List Frame→Ro→Own→Cy→Prop) (ρ:Ro) (σ:Own) (v:Value) (x:α),Ro.le ρ₀ ρ→D x→Val ρ v x→CallsH (CX mn X) k (v :: caps).toArray ρ σ (fun w ρ' σ'=>ρ' = ρ∧σ' = σ∧w = .bool (p x))
theorem PredR.mono {α:Type} [Dat α] {ρ₀ ρ₁:Ro} {f:Value} {D:α→Prop} {p:α→Bool} (h:Ro.le ρ₀ ρ₁):PredR ρ₀ f D p→PredR ρ₁ f D p:=fun ⟨k,fn,caps,h1,h2,h3,h4,h5⟩=>⟨k,fn,caps,h1,h2,h3,h4,fun mn X ρ σ v x hle hD hv=>h5 mn X ρ σ v x (h.trans hle) hD hv⟩
theorem PredR.single {α:Type} [Dat α] {ρ₀:Ro} {f:Value} {D:α→Prop} {p:α→Bool} (h:PredR ρ₀ f D p):single f = true:=by
 obtain ⟨k,fn,caps,h1,_⟩:=h; rw [h1]; rfl
theorem IterF.mono {ρ₀ ρ₁:Ro} {f:Value} {ys:List Value} (h:Ro.le ρ₀ ρ₁):IterF f ρ₀ ys→IterF f ρ₁ ys:=fun ⟨k,fn,caps,h1,h2,h3,h4,h5⟩=>⟨k,fn,caps,h1,h2,h3,h4,fun mn X l I ρ σ hle=>h5 mn X l I ρ σ (h.trans hle)⟩
theorem Adv {e:Env} {ds:List Deferred} {ρ ρ₀:Ro} {σ:Own} {K:Value→List Deferred→Ro→Own→Prop} {rd:Option Nat} {dd:Option Tmp} {ty:TypeId} {pos:String} {af:Array Edge} {g:Option (Nat × Bool)} {x y:Operand} {v:Value} {α:Type} [Dat α] {mn:Bool} {X:Frame→List Frame→Ro→Own→Cy→Prop} {f:Value} {D:α→Prop} {pr:α→Bool} {a:α} {tys:Array TypeId}
  (hf:PredR ρ₀ f D pr) (hle:Ro.le ρ₀ ρ) (hD:D a) (hx:Af e x = f) (hy:Af e y = v) (hv:Val ρ v a) (h:K (.bool (pr a)) ds ρ σ) :
  wpS (CX mn X).P ρ (execOp (Af e) ⟨dd,.call ⟨.value x,#[y],tys⟩,ty,pos,af,g⟩) σ (NextH (CX mn X) K rd ds ρ):=by
 obtain ⟨k,fn,caps,rfl,h1,h2,h3,h4⟩:=hf
 exact Ur (args:=[y]) (vs:=[v]) (caps:=caps) (C:=CX mn X) hx (h4 mn X ρ σ v a hle hD hv) h1 h2 h3 ⟨hy,trivial⟩ h
/-- A call by its body,which leaves the mark of one range over a function. -/
theorem Nz {C:Ctx} {f:FuncId} {fn:Func} {c:Code} {n:Nat} {args:List Value} {ρ:Ro} {σ:Own} {R:Value→Ro→Own→Prop} (rs:List Nat) (hf:C.P.funcs[f]? = some fn) (hc:fn.body = some c) (hn:fn.ntmps = n) (ha:Nat.ble args.length n = true) (hr:fn.results = (rs.map ResultVar.tmp).toArray)
  (h:∀ Q:Hu,(∀ e ρ' σ' r,R (Abp rs e) ρ' σ'→Q .ret e [{ target:=.collected r,args:=#[] }] ρ' ((r,.obj (.deferred (some []))) :: σ'))→(∀ e ρ' σ' r,R (Abp rs e) ρ' σ'→Q .normal e [{ target:=.collected r,args:=#[] }] ρ' ((r,.obj (.deferred (some []))) :: σ'))→WpC C ⟨f,.normal,none⟩ n c Q (Pn args) [] ρ σ):CallsH C f args.toArray ρ σ R:=by
 have h1:CallsH C f args.toArray ρ σ (fun v ρ' σ'=>∃ r o σ'',σ' = (r,Res.obj o) :: σ''∧R v ρ' σ''):=by
  refine Oy hf hc hn (Nat.le_of_ble_eq_true ha) (h _ (fun e ρ' σ' r hR=>⟨fun id h=>(by cases h),?_⟩) (fun e ρ' σ' r hR=>⟨fun id h=>(by cases h),?_⟩)) <;>
  ·refine ⟨r,0,rfl,rfl,?_⟩
   exact Lm (Q:=fun v σ'=>∃ r o σ'',σ' = (r,Res.obj o) :: σ''∧R v ρ' σ'') hr ⟨r,_,σ',rfl,hR⟩
 intro c' cs
 refine (h1 c' cs).bind ?_
 rintro _ _ ρ' σ' ⟨v,rfl,rfl,r,o,σ'',rfl,hR⟩
 exact .ghost Bmh (.stop ⟨v,rfl,rfl,hR⟩)
/-- What is held may be told otherwise behind a piece of code. -/
def Vl (Q:Hu):Hu:=fun ex e ds ρ σ=>∃ ρ' σ',Ghost ρ σ ρ' σ'∧Q ex e ds ρ' σ'
theorem Aab {C:Ctx} {b:FB} {n:Nat} {c:Code} {Q:Hu} {e:Env} {ds:List Deferred} {ρ:Ro} {σ:Own} (h:WpC C b n c (Vl Q) e ds ρ σ):WpC C b n c Q e ds ρ σ:=fun tm k cs ht=>by
 refine (h tm k cs ht).bind ?_
 rintro _ _ ρ' σ' ⟨h1,ex,tm',e',ds',todo,h2,⟨ρ1,σ1,hg,hq⟩,h3,h4⟩
 exact .ghost hg (.stop ⟨h1,ex,tm',e',ds',todo,h2,hq,h3,h4⟩)
theorem Yn {Q:Hu} {ex:Ex} {e:Env} {ds:List Deferred} {ρ ρ':Ro} {σ σ':Own} (hg:Ghost ρ σ ρ' σ') (h:Vl Q ex e ds ρ' σ'):Vl Q ex e ds ρ σ :=
 let ⟨ρ1,σ1,h1,h2⟩:=h; ⟨ρ1,σ1,hg.trans h1,h2⟩
theorem Adc {Q:Hu} {ex:Ex} {e:Env} {ds:List Deferred} {ρ:Ro} {σ:Own} (h:Q ex e ds ρ σ):Vl Q ex e ds ρ σ:=⟨ρ,σ,.refl,h⟩
theorem Yp {I:List Value→Ro→Own→Prop} {pre pre':List Value} {ρ:Ro} {σ:Own} (h:pre' = pre) (hi:I pre ρ σ):I pre' ρ σ:=by rw [h]; exact hi
theorem Fe (A B C:Own):(A ++ (B ++ C)).Perm (B ++ (A ++ C)):=List.perm_append_comm_assoc A B C
theorem Xg {α:Type} {f:α→Value} (hf:∀ a b,f a = f b→a = b):∀ {l m:List α},l.map f = m.map f→l = m
 | [],[],_=>rfl
 | [],_ :: _,h=>by cases h
 | _ :: _,[],h=>by cases h
 | a :: l,b :: m,h=>by
  simp only [List.map_cons,List.cons.injEq] at h
  rw [hf a b h.1,Xg hf h.2]
theorem Nf {α:Type} {f:α→Value} (hf:∀ a b,f a = f b→a = b) {l m:List α} (h:l.map f = m.map f):m = l:=(Xg hf h).symm
theorem Ly {α:Type} {f:α→Value} (hf:∀ a b,f a = f b→a = b) {l l1:List α} {x:Value} {post:List Value} (h:l.map f = l1.map f ++ x :: post):∃ a l2,l = l1 ++ a :: l2∧x = f a:=by
 obtain ⟨k1,k2,h1,h2,h3⟩:=List.map_eq_append_iff.1 h
 obtain ⟨a,l2,h4,h5,h6⟩:=List.map_eq_cons_iff.1 h3
 have:=Xg hf h2
 subst this
 exact ⟨a,l2,by rw [h1,h4],h5.symm⟩
theorem Yi:∀ a b:Nat,Value.int .i64 (a:Int) = .int .i64 (b:Int)→a = b:=fun a b h=>by injection h with _ h; omega
theorem Apq:∀ a b:Nat,Value.int .u64 (a:Int) = .int .u64 (b:Int)→a = b:=fun a b h=>by injection h with _ h; omega
/-- Such entries,each of which holds what φ says of its key. -/
def Jo (es:Array MapEntry) (V:Int→Int→Value→Prop):Prop:=∀ en ∈ es.toList,∃ a b,en.key = .agg #[.int .i64 a,.int .i64 b]∧V a b en.val
theorem Aii {V:Int→Int→Value→Prop}:Jo #[] V:=fun en h=>by cases h
section
variable {C:Ctx} {e:Env} {ds:List Deferred} {ρ:Ro} {σ:Own} {K:Value→List Deferred→Ro→Own→Prop} {rd:Option Nat} {dd:Option Tmp}
variable {ty:TypeId} {pos:String} {af:Array Edge} {g:Option (Nat × Bool)} {x y u:Operand} {v p:Value} {t t':TypeId} {P:Program}
/-- Two numbers side by side. -/
structure Key2 (P:Program) (kt:TypeId):Prop where
 und:∃ f1 f2,P.underlying kt = some (.struct #[f1,f2])∧(f1.name ≠ "_"∧f1.offset = 0∧P.underlying f1.type = some (.int .i64))∧(f2.name ≠ "_"∧f2.offset = 1∧P.underlying f2.type = some (.int .i64))
 held:P.stoodInHeld kt = false
theorem Key2.eqF {kt:TypeId} (h:Key2 P kt) {a b c d:Int}:∃ fs:List Field,P.underlying kt = some (.struct fs.toArray)∧EqF P #[.int .i64 a,.int .i64 b] #[.int .i64 c,.int .i64 d] fs [a,b] [c,d]:=by
 obtain ⟨f1,f2,h1,⟨h2,h3,h4⟩,h5,h6,h7⟩:=h.und
 exact ⟨[f1,f2],h1,⟨h2,_,h4,by rw [h3]; rfl,by rw [h3]; rfl⟩,⟨h5,_,h7,by rw [h6]; rfl,by rw [h6]; rfl⟩,trivial⟩
theorem Us {kt:TypeId} (hk:Key2 P kt) {a b:Int} {V:Int→Int→Value→Prop} {Q:Option (Nat × Value)→Own→Prop}:∀ (es:List MapEntry) (i:Nat),(∀ en ∈ es,∃ c d,en.key = .agg #[.int .i64 c,.int .i64 d]∧V c d en.val) →
  Q none σ→(∀ j en,es[j]? = some en→en.key = .agg #[.int .i64 a,.int .i64 b]→V a b en.val→Q (some (i + j,en.val)) σ)→wpS P ρ (Instr.findAsking kt (.agg #[.int .i64 a,.int .i64 b]) es i) σ Q
 | [],i,_,h0,_=>h0
 | en :: es,i,he,h0,h1=>by
  obtain ⟨c,d,hkey,hV⟩:=he en (List.mem_cons_self ..)
  show wpS P ρ ((Op.equal kt (.agg #[.int .i64 a,.int .i64 b]) en.key).bind _) σ Q
  rw [Ad,hkey]
  obtain ⟨fs,hT,hf⟩:=hk.eqF (a:=a) (b:=b) (c:=c) (d:=d)
  refine Ms (d:=9998) hT hk.held hf ?_
  by_cases hab:[a,b] = [c,d]
  ·rw [decide_eq_true hab]
   simp only [List.cons.injEq,and_true] at hab
   obtain ⟨rfl,rfl⟩:=hab
   exact h1 0 en rfl hkey hV
  ·rw [decide_eq_false hab]
   refine Us hk es (i + 1) (fun x hx=>he x (List.mem_cons_of_mem _ hx)) h0 fun j x hx hxk hxV=>?_
   have:=h1 (j + 1) x (by simpa using hx) hxk hxV
   rw [show i + 1 + j = i + (j + 1) by omega]; exact this
theorem Qp {kt:TypeId} (hk:Key2 P kt) {a b:Int} {V:Int→Int→Value→Prop} {es:Array MapEntry} (hs:Jo es V) {Q:Option (Nat × Value)→Own→Prop}
  (h0:Q none σ) (h1:∀ j en,es[j]? = some en→en.key = .agg #[.int .i64 a,.int .i64 b]→V a b en.val→Q (some (j,en.val)) σ):wpS P ρ (Instr.findKey kt (.agg #[.int .i64 a,.int .i64 b]) es.toList) σ Q:=by
 obtain ⟨f1,f2,hT,_⟩:=hk.und
 show wpS P ρ ((underlying kt).bind _) σ Q
 rw [Ad]
 refine Az hT ?_
 have key:∀ l:List MapEntry,l ≠ []→Instr.findNow (.struct #[f1,f2]) (.agg #[.int .i64 a,.int .i64 b]) l 0 = none:=fun l hl=>by
  cases l with
  | nil=>exact absurd rfl hl
  | cons en l=>rfl
 cases hl:es.toList with
 | nil=>exact h0
 | cons en l =>
  have hnow:=key (en :: l) (by simp)
  simp only [hnow]
  refine Us hk _ 0 (by rw [← hl]; exact hs) h0 fun j x hx hxk hxV=>?_
  have:=h1 j x (by rw [← Array.getElem?_toList,hl]; exact hx) hxk hxV
  simpa using this
theorem Uu {kt:TypeId} (hk:Key2 P kt) {a b:Int} {em:Bool} {m:Nat} {Q:Unit→Own→Prop} (h:Q () σ):wpS P ρ (Instr.checkKey em (m + 2) kt (.agg #[.int .i64 a,.int .i64 b])) σ Q:=by
 obtain ⟨f1,f2,hT,⟨h2,h3,h4⟩,h5,h6,h7⟩:=hk.und
 show wpS P ρ ((underlying kt).bind _) σ Q
 rw [Ad]
 refine Az hT ?_
 show wpS P ρ (Sem.bind (forIn #[f1,f2] _ _) _) σ Q
 rw [Ad]
 have e1:(#[f1,f2]:Array Field) = [f1,f2].toArray:=rfl
 rw [e1,List.forIn_toArray,List.forIn_cons]
 show wpS P ρ (Sem.bind _ _) σ _
 rw [Ad,if_pos h2]
 show wpS P ρ (Sem.bind (part f1.type #[.int .i64 a,.int .i64 b] f1.offset) _) σ _
 rw [Ad]
 refine Qr (v:=.int .i64 a) ⟨_,h4,rfl⟩ (by rw [h3]; rfl) ?_
 show wpS P ρ (Sem.bind (Instr.checkKey em (m + 1) f1.type (.int .i64 a)) _) σ _
 rw [Ad]
 show wpS P ρ ((underlying f1.type).bind _) σ _
 rw [Ad]
 refine Az h4 ?_
 show wpS P ρ (forIn [f2] _ _) σ _
 rw [List.forIn_cons]
 show wpS P ρ (Sem.bind _ _) σ _
 rw [Ad,if_pos h5]
 show wpS P ρ (Sem.bind (part f2.type #[.int .i64 a,.int .i64 b] f2.offset) _) σ _
 rw [Ad]
 refine Qr (v:=.int .i64 b) ⟨_,h7,rfl⟩ (by rw [h6]; rfl) ?_
 show wpS P ρ (Sem.bind (Instr.checkKey em (m + 1) f2.type (.int .i64 b)) _) σ _
 rw [Ad]
 show wpS P ρ ((underlying f2.type).bind _) σ _
 rw [Ad]
 refine Az h7 ?_
 exact h
/-- Is there something of this key? -/
theorem Xp {i r clock:Nat} {kt et:TypeId} {a b:Int} {z:Value} {es:Array MapEntry} {V:Int→Int→Value→Prop} (hT:C.P.underlying t = some (.map kt et)) (hk:Key2 C.P kt) (hz:Fw C.P et z) (hs:Jo es V)
  (hx:Af e x = .map (some r)) (hy:Af e y = .agg #[.int .i64 a,.int .i64 b]) (hi:σ[i]? = some (r,.obj (.map es clock))) (h0:K (.tuple #[z,.bool false]) ds ρ σ) (h1:∀ w,V a b w→K (.tuple #[w,.bool true]) ds ρ σ) :
  wpS C.P ρ (execOp (Af e) ⟨dd,.lookup t x y true,ty,pos,af,g⟩) σ (NextH C K rd ds ρ):=by
 show wpS C.P ρ ((Instr.lookup t (Af e x) (Af e y) true).bind _) σ _
 refine Gd ?_
 rw [hx,hy]
 show wpS C.P ρ ((underlying t).bind _) σ _
 rw [Ad]
 refine Az hT ?_
 show wpS C.P ρ ((getObj r).bind _) σ _
 rw [Ad]
 refine ⟨_,.inr (List.mem_of_getElem? hi),rfl,?_⟩
 show wpS C.P ρ ((Instr.checkKey es.isEmpty 10000 kt _).bind _) σ _
 rw [Ad]
 refine Uu (m:=9998) hk ?_
 show wpS C.P ρ ((Instr.findKey kt _ es.toList).bind _) σ _
 rw [Ad]
 refine Qp hk hs ?_ fun j en _ _ hV=>h1 _ hV
 show wpS C.P ρ ((zeroValue et).bind _) σ _
 rw [Ad]
 exact Jz hz h0
theorem Xt {old new:Value} {Q:Value→Own→Prop} (hw:old = new) (h:Q new σ):wpS P ρ (Instr.keyThatStays old new) σ Q:=by
 subst hw
 unfold Instr.keyThatStays
 split
 ·exact h
 ·show wpS P ρ (Sem.bind (choose _) _) σ Q
  rw [Ad]
  show (if _ then _ else _)
  have key:∀ n:Nat,(if n = 0 then old else old) = old:=fun n=>by split <;> rfl
  split
  ·simp only [key]; exact h
  ·intro t; simp only [key]; exact h
/-- Something of this key. -/
theorem Afs {i r clock:Nat} {kt et:TypeId} {a b:Int} {w:Value} {es:Array MapEntry} {V:Int→Int→Value→Prop} (hT:C.P.underlying t = some (.map kt et)) (hk:Key2 C.P kt) (hs:Jo es V) (hV:V a b w)
  (hx:Af e x = .map (some r)) (hy:Af e y = .agg #[.int .i64 a,.int .i64 b]) (hu:Af e u = w) (hi:σ[i]? = some (r,.obj (.map es clock)))
  (h:∀ es' clock',Jo es' V→K undef ds ρ (σ.set i (r,.obj (.map es' clock')))):wpS C.P ρ (execOp (Af e) ⟨dd,.mapUpdate t x y u,ty,pos,af,g⟩) σ (NextH C K rd ds ρ):=by
 show wpS C.P ρ ((Instr.mapUpdate t (Af e x) (Af e y) (Af e u)).bind _) σ _
 refine Rs ?_
 rw [hx,hy,hu]
 show wpS C.P ρ ((underlying t).bind _) σ _
 rw [Ad]
 refine Az hT ?_
 show wpS C.P ρ ((getObj r).bind _) σ _
 rw [Ad]
 refine ⟨_,.inr (List.mem_of_getElem? hi),rfl,?_⟩
 show wpS C.P ρ ((Instr.checkKey false 10000 kt _).bind _) σ _
 rw [Ad]
 refine Uu (m:=9998) hk ?_
 show wpS C.P ρ ((Instr.findKey kt _ es.toList).bind _) σ _
 rw [Ad]
 refine Qp hk hs ?_ fun j en hj hkey _=>?_
 ·refine ⟨rfl,i,_,hi,rfl,h _ _ fun en hen=>?_⟩
  rw [Array.toList_push,List.mem_append,List.mem_singleton] at hen
  rcases hen with hen | rfl
  ·exact hs en hen
  ·exact ⟨a,b,rfl,hV⟩
 ·show wpS C.P ρ ((Instr.keyThatStays (((es[j]?).map (·.key)).getD _) _).bind _) σ _
  rw [Ad,hj]
  refine Xt hkey ?_
  refine ⟨rfl,i,_,hi,rfl,h _ _ fun en' hen=>?_⟩
  rw [Array.toList_modify] at hen
  obtain ⟨n,hn⟩:=List.getElem?_of_mem hen
  rw [List.getElem?_modify] at hn
  obtain ⟨en0,h2,h3⟩:=Option.map_eq_some_iff.1 hn
  have hm:=hs en0 (List.mem_of_getElem? h2)
  split at h3
  ·subst h3; exact ⟨a,b,rfl,hV⟩
  ·subst h3; exact hm
end
theorem Aic:Key2 Tryd.prog 120:=⟨⟨_,_,Bio,⟨by decide,rfl,Bjq⟩,⟨by decide,rfl,Bib⟩⟩,by kernel_rfl⟩
end
section
open Go Go.WideShapes
/-- What may be read of a world: all its blocks but channels. -/
def roW (W:World):Ro:=fun b=>match W.heap[b]? with
 | some o=>if o.isChan then none else some o
 | none=>none
theorem Anl {W:World} (b:Nat) (o:Obj) (h:roW W b = some o):W.heap[b]? = some o∧o.isChan = false:=by
 unfold roW at h
 cases hb:W.heap[b]? with
 | none=>rw [hb] at h; cases h
 | some o' =>
  rw [hb] at h
  simp only at h
  cases hc:o'.isChan with
  | true=>rw [hc] at h; cases h
  | false=>rw [hc] at h; simp at h; subst h; exact ⟨rfl,hc⟩
theorem Vz {W:World} {b t:Nat} {c:Array Value} {fz:Nat × Nat} (h:W.heap[b]? = some (.cells c t fz)):roW W b = some (.cells c t fz):=by
 unfold roW; rw [h]; rfl
/-- A type whose readings are data of this kind. -/
def Api (α:Type) [Dat α] (t:TypeId):Prop :=
 Tryd.prog.cellsOf t = Dat.k α∧∀ (H:Type) (enc:TypeId × Value→H) (W:World) (fuel:Nat) (cs:List Value) (x:DataW H × List MemPlace),
  DataW.trod enc Tryd.prog W 0 (fun _=>true) true fuel t cs = some x→(∀ n ∈ x.1.weights Tryd.prog t,n ≤ reachBytes)→∃ a:α,Dat.rep (roW W) cs a
theorem Azm {n:Nat} (h:n ≤ reachBytes):n < 2 ^ 60:=by unfold reachBytes at h; omega
theorem Atq {t:TypeId} (ht:Tryd.prog.underlying t = some (.int .i64)) (hc:Tryd.prog.cellsOf t = 1):Api Int t :=
 ⟨hc,fun H enc W fuel cs x h _=>by
  obtain ⟨n,h1,_,h3⟩:=DataW.trod_int ht h
  refine ⟨n,h1,?_⟩
  simp [Lit.wf,IntKind.min,IntKind.max,IntKind.signed,IntKind.bits] at h3
  exact ⟨by omega,by omega⟩⟩
theorem Axy {t:TypeId} (ht:Tryd.prog.underlying t = some .string) (hc:Tryd.prog.cellsOf t = 1):Api ByteArray t :=
 ⟨hc,fun H enc W fuel cs x h hw=>by
  obtain ⟨s,h1,h2,_⟩:=DataW.trod_string ht h
  refine ⟨s,h1,Azm ?_⟩
  have:=hw s.data.toList.length (by rw [h2]; simp [DataW.weights])
  simpa using this⟩
theorem Bas {α:Type} {P:Nat→α→Prop}:∀ n,(∀ i,i < n→∃ a,P i a)→∃ xs:List α,xs.length = n∧∀ i x,xs[i]? = some x→P i x
 | 0,_=>⟨[],rfl,fun i x h=>by cases h⟩
 | n + 1,h=>by
  obtain ⟨xs,h1,h2⟩:=Bas n fun i hi=>h i (by omega)
  obtain ⟨a,ha⟩:=h n (by omega)
  refine ⟨xs ++ [a],by simp [h1],fun i x hx=>?_⟩
  rcases Nat.lt_or_ge i n with hlt | hge
  ·rw [List.getElem?_append_left (by omega)] at hx; exact h2 i x hx
  ·have hi:i = n:=by
    have:=(List.getElem?_eq_some_iff.1 hx).1
    simp only [List.length_append,List.length_singleton] at this; omega
   subst hi
   rw [List.getElem?_append_right (by omega),h1,Nat.sub_self] at hx
   cases hx; exact ha
theorem Bes {a:Addr}:a.add 0 = a:=by simp [Addr.add]
theorem Ayq {b off i:Nat}:(⟨b,off,none⟩:Addr).add i = ⟨b,off + i,none⟩:=by
 unfold Addr.add; split
 ·rename_i h; subst h; rfl
 ·rfl
theorem Axq {W:World} {a:Addr} {k:Nat} {cs:List Value} (hk:1 ≤ k) (h:W.cells? 0 a k = some cs):∃ b off c t fz rest,a = ⟨b,off,none⟩∧W.heap[b]? = some (.cells c t fz)∧c.toList.drop off = cs ++ rest∧cs.length = k:=by
 unfold World.cells? at h
 rw [if_pos (Nat.zero_le _)] at h
 have hl:=mapM_some_length h
 rw [List.length_range] at hl
 have hg:∀ j,j < k→W.cell? (a.add j) = cs[j]?:=fun j hj=>mapM_some_get h j j (by rw [List.getElem?_range hj])
 obtain ⟨b,off,spot⟩:=a
 have h0:=hg 0 hk
 rw [Bes] at h0
 obtain ⟨v,hv⟩:∃ v,cs[0]? = some v:=⟨_,List.getElem?_eq_getElem (by omega)⟩
 rw [hv] at h0
 unfold World.cell? at h0
 simp only at h0
 cases hb:W.heap[b]? with
 | none=>rw [hb] at h0; cases h0
 | some o =>
  cases o with
  | cells c t fz =>
   rw [hb] at h0
   simp only at h0
   cases spot with
   | some s=>simp at h0
   | none =>
    refine ⟨b,off,c,t,fz,(c.toList.drop off).drop k,rfl,hb,?_,hl⟩
    have e1:(c.toList.drop off).take k = cs:=by
     apply List.ext_getElem?
     intro j
     rw [List.getElem?_take]
     by_cases hj:j < k
     ·rw [if_pos hj,← hg j hj,List.getElem?_drop,Ayq]
      unfold World.cell?
      simp only [hb]
      simp
     ·rw [if_neg hj,List.getElem?_eq_none (by omega)]
    rw [← e1,List.take_append_drop]
  | _=>rw [hb] at h0; cases h0
theorem Auu {H:Type} {P:Program} {e:TypeId}:∀ {ds:List (DataW H)} {d:DataW H} {n:Nat},d ∈ ds→n ∈ d.weights P e→n ∈ DataW.weightsAll P e ds
 | [],_,_,h,_=>by cases h
 | d' :: ds,d,n,h,hn=>by
  rw [DataW.weightsAll,List.mem_append]
  rcases List.mem_cons.1 h with rfl | h
  ·exact .inl hn
  ·exact .inr (Auu h hn)
theorem Avg {α:Type} [Dat α] {t e:TypeId} (ht:Tryd.prog.underlying t = some (.slice e)) (hc:Tryd.prog.cellsOf t = 1) (hb:1 ≤ Tryd.prog.bytesOf e) (hk:1 ≤ Dat.k α) (he:Api α e):Api (List α) t :=
 ⟨hc,fun H enc W fuel cs x h hw=>by
  rcases DataW.trod_slice ht h with ⟨h1,_⟩ | ⟨a,len,cap,Av,rest,n,_,h2,h3,_,h5,_,h6,h7,_,_⟩
  ·exact ⟨[],_,h1,none,0,0,rfl,rfl,by omega,Nat.le_refl _,fun i x hx=>by cases hx⟩
  ·rw [h3] at hw
   simp only [DataW.weights,ht] at hw
   have hlen:len < 2 ^ 60:=by
    have:=hw _ (List.mem_cons_self ..)
    simp only [List.length_map] at this
    refine Azm (Nat.le_trans ?_ this)
    rw [h6]
    exact Nat.le_trans (Nat.le_trans (Nat.le_add_right _ _) (Nat.le_of_eq (Nat.mul_one _).symm)) (Nat.mul_le_mul_left _ hb)
   obtain ⟨xs,hx1,hx2⟩:=Bas (P:=fun i (y:α)=>∃ cs,W.cells? 0 (a.add (i * Tryd.prog.cellsOf e)) (Tryd.prog.cellsOf e) = some cs∧Dat.rep (roW W) cs y) len fun i hi=>by
    have h8:=h7 i hi
    obtain ⟨y,hy⟩:∃ y,Av[i]? = some y:=⟨_,List.getElem?_eq_getElem (by omega)⟩
    rw [hy,Option.bind_eq_some_iff] at h8
    obtain ⟨ci,hc1,hc2⟩:=h8
    obtain ⟨z,hz⟩:=he.2 H enc W n ci y hc2 fun m hm=>hw m (List.mem_cons_of_mem _ (List.mem_append_left _ (Auu (List.mem_map_of_mem (List.mem_of_getElem? hy)) hm)))
    exact ⟨z,ci,hc1,hz⟩
   refine ⟨xs,_,h2,some a,len,cap,rfl,hx1,hlen,h5,fun i y hy=>?_⟩
   obtain ⟨b',off',rfl⟩:∃ b' off',a = ⟨b',off',none⟩:=by
    have hi:=(List.getElem?_eq_some_iff.1 hy).1
    obtain ⟨y0,hy0⟩:∃ y0,xs[0]? = some y0:=⟨_,List.getElem?_eq_getElem (by omega)⟩
    obtain ⟨ci,hc1,_⟩:=hx2 0 y0 hy0
    rw [he.1,Nat.zero_mul,Bes] at hc1
    obtain ⟨b,off,_,_,_,_,h8,_⟩:=Axq hk hc1
    exact ⟨b,off,h8⟩
   obtain ⟨ci,hc1,hc2⟩:=hx2 i y hy
   rw [he.1,Ayq] at hc1
   obtain ⟨b,off,c,t',fz,rs,h8,h9,h10,_⟩:=Axq hk hc1
   simp only [Addr.mk.injEq,and_true] at h8
   obtain ⟨rfl,rfl⟩:=h8
   exact ⟨b',off',rfl,b',_,c,t',fz,ci,rs,rfl,Vz h9,hc2,h10⟩⟩
theorem Atr (cs:List Value) (a k:Nat):cs.drop a = (cs.drop a).take k ++ cs.drop (a + k):=by rw [← List.drop_drop,List.take_append_drop]
theorem Asr {H:Type} {enc:TypeId × Value→H} {W:World} {n:Nat} {cs:List Value} {xs:List (DataW H × List MemPlace)} {fs:Array Field} {t:TypeId} (ht:Tryd.prog.underlying t = some (.struct fs)) (hl:xs.length = fs.size) (h:∀ (i:Nat) (f:Field),fs[i]? = some f→DataW.trod enc Tryd.prog W 0 (fun _=>true) true n f.type ((cs.drop f.offset).take (Tryd.prog.cellsOf f.type)) = xs[i]?)
  (hw:∀ m ∈ (DataW.agg (xs.map (·.1)):DataW H).weights Tryd.prog t,m ≤ reachBytes) {α:Type} [Dat α] {i ft off:Nat} {f:Field} (hf:fs[i]? = some f) (h1:f.type = ft) (h2:f.offset = off) (hd:Api α ft):∃ a:α,Dat.rep (roW W) ((cs.drop off).take (Dat.k α)) a:=by
 subst h1 h2
 have hi:=(Array.getElem?_eq_some_iff.1 hf).1
 obtain ⟨y,hy⟩:∃ y,xs[i]? = some y:=⟨_,List.getElem?_eq_getElem (by omega)⟩
 have h3:=h i f hf
 rw [hy,hd.1] at h3
 refine hd.2 H enc W n _ y h3 fun m hm=>hw m ?_
 simp only [DataW.weights,ht]
 exact DataW.weights_mem_each (j:=i) (t:=f.type) (d:=y.1) (by simp [Array.getElem?_toList,hf]) (by simp [hy]) m hm
theorem Bet:Api Span 27:=⟨by kernel_rfl,fun H enc W fuel cs x h hw=>by
 obtain ⟨xs,n,_,rfl,hcl,hl,hf⟩:=DataW.trod_struct Bie h
 rw [show Tryd.prog.cellsOf 27 = 2 from by kernel_rfl] at hcl
 obtain ⟨a0,r0⟩:=Asr (i:=0) Bie hl hf hw rfl rfl (show _ = 0 from rfl) (Atq Bib (by kernel_rfl))
 obtain ⟨a1,r1⟩:=Asr (i:=1) Bie hl hf hw rfl rfl (show _ = 1 from rfl) (Atq Bib (by kernel_rfl))
 refine ⟨⟨a0,a1⟩,?_⟩
 have e0:cs = cs.drop 0:=rfl
 rw [e0]
 exact ⟨(cs.drop 0).take 1,cs.drop 1,(Atr cs 0 1).trans (by rfl),r0,(show Dat.rep (roW W) (cs.drop 1) a1 from by (have:=r1; rw [List.take_of_length_le (by rw [List.length_drop,hcl]; decide)] at this; exact this))⟩⟩
end
section
open Go Go.RowKit Go.Conc
/-- A function's body,walked from what it is given. -/
def Agd (C:Ctx) (f:FuncId) (r:Nat) (args:List Value) (ρ:Ro) (σ:Own) (R:Value→Ro→Own→Prop):Prop :=
 ∃ fn c,C.P.funcs[f]? = some fn∧fn.body = some c∧fn.results = #[.tmp r]∧args.length ≤ fn.ntmps ∧
  ∀ Q:Hu,(∀ e ρ' σ',R (e r) ρ' σ'→Q .ret e [] ρ' σ')→(∀ e ρ' σ',R (e r) ρ' σ'→Q .normal e [] ρ' σ')→WpC C ⟨f,.normal,none⟩ fn.ntmps c Q (Pn args) [] ρ σ
theorem Bdv {C:Ctx} {f:FuncId} {fn:Func} {c:Code} {n r:Nat} {args:List Value} {ρ:Ro} {σ:Own} {R:Value→Ro→Own→Prop} (hf:C.P.funcs[f]? = some fn) (hc:fn.body = some c) (hn:fn.ntmps = n) (ha:Nat.ble args.length n = true) (hr:fn.results = #[.tmp r])
  (h:∀ Q:Hu,(∀ e ρ' σ',R (e r) ρ' σ'→Q .ret e [] ρ' σ')→(∀ e ρ' σ',R (e r) ρ' σ'→Q .normal e [] ρ' σ')→WpC C ⟨f,.normal,none⟩ n c Q (Pn args) [] ρ σ):Agd C f r args ρ σ R :=
 ⟨fn,c,hf,hc,hr,hn ▸ Nat.le_of_ble_eq_true ha,hn ▸ h⟩
theorem Zp {P:Program} {f:FuncId} {r:Nat} {args:List Value} {ρ:Ro} {R:Value→Ro→Own→Prop} {W0:World} {Pst:Value→World→Prop} (h:Agd (Iw P) f r args ρ [] R) (hi:P.inits.idxOf? f = none)
  (hR:∀ v ρ' σ',R v ρ' σ'→σ' = []∧∀ W,Below W0.heap.size W0 W→Pst v W):GoesH (Iw P) (Agg P W0 Pst) (Frame.enter P f args.toArray .normal) [] ρ []:=by
 obtain ⟨fn,c,hf,hc,hr,ha,hw⟩:=h
 have hf:P.funcs[f]? = some fn:=hf
 have e1:Frame.enter P f args.toArray .normal = Fr ⟨f,.normal,none⟩ (args.toArray ++ Array.replicate (fn.ntmps - args.toArray.size) undef) [] [.code c]:=by
  simp [Frame.enter,hf,hc,Fr]
 rw [e1]
 refine (hw (fun ex e ds ρ σ=>(∀ id,ex ≠ .exit id)∧ds = []∧R (e r) ρ σ) (fun e ρ' σ' h=>⟨fun id h=>(by cases h),rfl,h⟩) (fun e ρ' σ' h=>⟨fun id h=>(by cases h),rfl,h⟩) _ [] [] (Tn ha)).bind ?_
 rintro _ _ ρ' σ' ⟨rfl,ex,tm',e',ds',todo,h1,⟨h2,rfl,h3⟩,h4,rfl⟩
 obtain ⟨rfl,hp⟩:=hR _ _ _ h3
 have fin:∀ todo,GoesH (Iw P) (Agg P W0 Pst) { Fr ⟨f,.normal,none⟩ tm' [] todo with mode:=.returning } [] ρ' []:=fun todo=>by
  refine .stop ⟨fun c vs hm=>(by cases hm),fun W hs hb _=>⟨e' r,W,#[],?_,fun ev hv=>by simp at hv,hp W hb⟩⟩
  have hrs:(results fn tm').runT P W #[] = (.ok (e' r) W,#[]):=by
   rw [← h1.2 r]
   unfold results; rw [hr,Array.mapM_eq_foldlM]; rfl
  simp [Conc.G,stepG,Fr,unwind,hf,-Sem.runT_eq,hrs,doReturn,hi,GStep.after,seen]
 cases ex with
 | normal =>
  cases h4
  exact Eh (fr':={ Fr ⟨f,.normal,none⟩ tm' [] [] with mode:=.returning }) (cs':=[]) (fun W=>by simp [Conc.G,stepG,stepG.exec,Fr]) (fin _)
 | exit id=>exact absurd rfl (h2 id)
 | ret =>
  obtain ⟨pre,rfl⟩:=h4
  exact Eh (fr':={ Fr ⟨f,.normal,none⟩ tm' [] (.code .ret :: (pre ++ [])) with mode:=.returning }) (cs':=[]) (fun W=>by simp [Conc.G,stepG,stepG.exec,Fr]) (fin _)
end
section
open Go Go.WideShapes Go.ChangeShapes Go.RowKit Go.Conc
section
variable {H:Type} {enc:TypeId × Value→H} {W:World} {r:Reach} {base t:Nat} {v:Value} {d:DataW H} {p:List MemPlace}
theorem Azv {α:Type} [Dat α] {fs:Array Field} (hd:Api α t) (ha:Dat.agg α = true) (ht:Tryd.prog.underlying t = some (.struct fs)) (hv:Value.okWide Tryd.prog W r base t v) (h:DataW.Trod enc Tryd.prog W 0 (fun _=>true) true t v d p) (hw:∀ n ∈ d.weights Tryd.prog t,n ≤ reachBytes):∃ a:α,Val (roW W) v a:=by
 obtain ⟨cs,rfl,_⟩:=okWide_struct ht hv
 obtain ⟨fuel,hf⟩:=h
 obtain ⟨a,h1⟩:=hd.2 H enc W fuel cs.toList (d,p) hf hw
 refine ⟨a,_,h1,?_⟩
 rw [ha]
 show _ = Value.agg cs.toList.toArray
 simp
end
theorem Bak {H:Type} {P:Program} {ts:List TypeId} {ds:List (DataW H)} (h:(DataW.weightsEach P ts ds).all (· ≤ reachBytes) = true) {j:Nat} {t:TypeId} {d:DataW H} (ht:ts[j]? = some t) (hd:ds[j]? = some d):∀ n ∈ d.weights P t,n ≤ reachBytes:=fun n hn=>by
 have:=List.all_eq_true.1 h _ (DataW.weights_mem_each ht hd n hn)
 simpa using this
def Bco:List (String × DataW Unit):=[("crocus/fake.can",Rows.laid_crocus_fake_can),("crocus/fake.over",Rows.laid_crocus_fake_over)]
theorem Zw {P:Program} {W:World} {n:String} {g:Nat} {cs:Array Value} (hg:P.globalNamed n = some g) (h:W.var? P n = some cs):∃ t fz,W.heap[g]? = some (.cells cs t fz):=by
 simp only [World.var?,hg,Option.bind_some] at h
 split at h
 ·rename_i cs' t fz hh
  cases h
  exact ⟨t,fz,hh⟩
 ·cases h
theorem gOver:Tryd.prog.globalNamed "crocus/fake.over" = some 2:=by kernel_rfl
theorem gCan:Tryd.prog.globalNamed "crocus/fake.can" = some 3:=by kernel_rfl
theorem tOver:(Tryd.prog.globals[2]?).map (·.type) = some 120:=by kernel_rfl
theorem tCan:(Tryd.prog.globals[3]?).map (·.type) = some 165:=by kernel_rfl
theorem Xc {W:World} (h:laidMetH Tryd.prog Bco W):Glob (roW W):=by
 have h':laidMet Tryd.prog [("crocus/fake.over",Rows.laid_crocus_fake_over)] W∧handlesMet Tryd.prog [("crocus/fake.can",Rows.laid_crocus_fake_can)] W:=h
 refine ⟨?_,?_⟩
 ·obtain ⟨ps,⟨g,t,cs,fuel,p,q,hg,ht,hv,hd,_,_⟩,_,_⟩:=h'.1
  obtain rfl:=Option.some.inj (gOver.symm.trans hg)
  obtain rfl:=Option.some.inj (tOver.symm.trans ht)
  obtain ⟨t',fz,hh⟩:=Zw hg hv
  obtain ⟨xs,n,_,h1,hcl,hl,hf⟩:=DataW.trod_struct Bio hd
  have e1:xs.map (·.1) = [.lit (.int .i64 0),.lit (.int .i64 0)]:=by
   have:=congrArg Prod.fst h1
   simp only [Rows.laid_crocus_fake_over,DataW.agg.injEq] at this
   exact this.symm
  rw [show Tryd.prog.cellsOf 120 = 2 from by kernel_rfl] at hcl
  obtain ⟨a,b,hab⟩:∃ a b,cs.toList = [a,b]:=by
   match hm:cs.toList,hcl with
   | [a,b],_=>exact ⟨a,b,rfl⟩
  have f0:DataW.trod (fun _=>()) Tryd.prog W 0 (fun _=>true) false n 110 ((cs.toList.drop 0).take (Tryd.prog.cellsOf 110)) = xs[0]?:=hf 0 _ rfl
  have f1:DataW.trod (fun _=>()) Tryd.prog W 0 (fun _=>true) false n 3 ((cs.toList.drop 1).take (Tryd.prog.cellsOf 3)) = xs[1]?:=hf 1 _ rfl
  obtain ⟨x0,x1,hx⟩:∃ x0 x1,xs = [x0,x1]:=by
   have:xs.length = 2:=hl
   match hm:xs,this with
   | [a,b],_=>exact ⟨a,b,rfl⟩
  subst hx
  rw [hab] at f0 f1
  rw [show Tryd.prog.cellsOf 110 = 1 from by kernel_rfl] at f0
  rw [show Tryd.prog.cellsOf 3 = 1 from by kernel_rfl] at f1
  simp only [List.getElem?_cons_zero,List.getElem?_cons_succ,List.drop_zero,List.drop_succ_cons,List.take_succ_cons,List.take_zero] at f0 f1
  obtain ⟨n0,c0,d0,_⟩:=DataW.trod_int Bjq f0
  obtain ⟨n1,c1,d1,_⟩:=DataW.trod_int Bib f1
  subst d0 d1
  simp only [List.map_cons,List.map_nil,List.cons.injEq,DataW.lit.injEq,Lit.int.injEq,true_and,and_true] at e1
  obtain ⟨rfl,rfl⟩:=e1
  simp only [List.cons.injEq,and_true] at c0 c1
  subst c0 c1
  have hcs:cs = #[.int .i64 0,.int .i64 0]:=by apply Array.ext'; exact hab
  rw [hcs] at hh
  exact ⟨t',fz,Vz hh⟩
 ·obtain ⟨g,t,cs,fuel,p,hg,ht,hv,hd⟩:=h.funcs (n:= "crocus/fake.can") (d:=.agg [.iface "func" (.lit (.string [40,99,114,111,99,117,115,47,102,97,107,101,46,112,114,111,98,101,41,46,109,105,115,115,101,115])),.iface "func" (.lit (.string [40,99,114,111,99,117,115,47,102,97,107,101,46,112,114,111,98,101,41,46,102,105,110,100,115]))]) (List.mem_cons_self ..)
  obtain rfl:=Option.some.inj (gCan.symm.trans hg)
  obtain rfl:=Option.some.inj (tCan.symm.trans ht)
  obtain ⟨t',fz,hh⟩:=Zw hg hv
  obtain ⟨xs,m,_,h1,hcl,hl,hf⟩:=DataW.trod_array Blq hd
  have e1:xs.map (·.1) = [.held [40,99,114,111,99,117,115,47,102,97,107,101,46,112,114,111,98,101,41,46,109,105,115,115,101,115],.held [40,99,114,111,99,117,115,47,102,97,107,101,46,112,114,111,98,101,41,46,102,105,110,100,115]]:=by
   have:=congrArg Prod.fst h1
   simp only [DataW.funcsOut,DataW.funcsOutAll] at this
   have h3:=(DataW.agg.inj this).symm
   simpa using h3
  rw [show Tryd.prog.cellsOf 165 = 2 from by kernel_rfl] at hcl
  obtain ⟨a,b,hab⟩:∃ a b,cs.toList = [a,b]:=by
   match hm:cs.toList,hcl with
   | [a,b],_=>exact ⟨a,b,rfl⟩
  have f0:=hf 0 (by decide)
  have f1:=hf 1 (by decide)
  obtain ⟨x0,x1,hx⟩:∃ x0 x1,xs = [x0,x1]:=by
   match hm:xs,hl with
   | [a,b],_=>exact ⟨a,b,rfl⟩
  subst hx
  rw [hab,show Tryd.prog.cellsOf 164 = 1 from by kernel_rfl] at f0 f1
  simp only [Nat.zero_mul,Nat.one_mul,List.getElem?_cons_zero,List.getElem?_cons_succ,List.drop_zero,List.drop_succ_cons,List.take_succ_cons,List.take_zero] at f0 f1
  simp only [List.map_cons,List.map_nil,List.cons.injEq,and_true] at e1
  obtain ⟨d0,q0⟩:=x0
  obtain ⟨d1,q1⟩:=x1
  obtain ⟨e0,e1⟩:=e1
  simp only at e0 e1
  subst e0 e1
  obtain rfl:=func_of_trod (f0:=133) Bkx (by kernel_rfl) f0
  obtain rfl:=func_of_trod (f0:=115) Bkx (by kernel_rfl) f1
  have hcs:cs = #[.func (.func 133) #[] #[],.func (.func 115) #[] #[]]:=by apply Array.ext'; exact hab
  rw [hcs] at hh
  exact ⟨t',fz,Vz hh⟩
end
section
open Go Go.WideShapes Go.ChangeShapes Go.RowKit Go.Conc
theorem Art:ownKnob Tryd.prog.godebug = none:=by kernel_rfl
theorem Aid:laidOutB Tryd.prog = true:=by kernel_rfl
/-- What a law's row asks,with the two variables laid. -/
def Apj (H:Type) (enc:TypeId × Value→H) (s:ChangeSpec) (fn:Func):World→Array Value→Prop :=
 fun w args=>(s.pre enc Tryd.prog fn [] false w args∧laidMetH Tryd.prog Bco w)∧sizedMet enc Tryd.prog fn (OpenSpec.ofChange s) false w args
theorem Sb {H:Type} {enc:TypeId × Value→H} {P:Program} {w:World} {base:Nat} {spare:Nat→Bool} {held:Bool}:∀ {ts:List TypeId} {vs:List Value} {ds:List (DataW H)} {ps:List MemPlace},DataW.TrodAll enc P w base spare held ts vs ds ps→vs.length = ts.length∧ds.length = ts.length
 | [],[],[],_,_=>⟨rfl,rfl⟩
 | t :: ts,v :: vs,d :: ds,_,⟨p,q,_,h,_⟩=>by have:=Sb h; simp [this]
 | [],[],_ :: _,_,h=>h.elim
 | [],_ :: _,_,_,h=>h.elim
 | _ :: _,[],_,_,h=>h.elim
 | _ :: _,_ :: _,[],_,h=>h.elim
theorem Oo {H:Type} {enc:TypeId × Value→H} {W W':World} (hb:Below W.heap.size W W'):∀ {ts:List TypeId} {vs:List Value} {ds:List (DataW H)} {ps:List MemPlace},(∀ t ∈ ts,Tryd.prog.readableRec t = true∧t < Tryd.prog.types.size)→(∀ x ∈ ps,x.block < W.heap.size) →
  DataW.TrodAll enc Tryd.prog W 0 (fun _=>true) true ts vs ds ps→DataW.TrodAll enc Tryd.prog W' 0 (fun b=>decide (b < W.heap.size)) true ts vs ds ps
 | [],[],[],_,_,_,h=>h
 | t :: ts,v :: vs,d :: ds,_,ht,hl,⟨p,q,h1,h2,he⟩=>⟨p,q,Below.trod Aid (ht t (List.mem_cons_self ..)).1 (ht t (List.mem_cons_self ..)).2 h1 hb fun x hx=>hl x (he ▸ List.mem_append_left _ hx),Oo hb (fun t h=>ht t (List.mem_cons_of_mem _ h)) (fun x hx=>hl x (he ▸ List.mem_append_right _ hx)) h2,he⟩
 | [],[],_ :: _,_,_,_,h=>h.elim
 | [],_ :: _,_,_,_,_,h=>h.elim
 | _ :: _,[],_,_,_,_,h=>h.elim
 | _ :: _,_ :: _,[],_,_,_,h=>h.elim
theorem Bcp {f:FuncId} {r:Nat} {fn:Func} {s:ChangeSpec} (os:Os) (started:os.Started) (H:Type) (enc:TypeId × Value→H) (hfn:Tryd.prog.funcs[f]? = some fn) (hvars:s.vars = []) (hres:fn.resultTypes = #[4]) (hi:Tryd.prog.inits.idxOf? f = none)
  (hts:∀ t ∈ fn.params.toList,Tryd.prog.readableRec t = true∧t < Tryd.prog.types.size)
  (hspec:∀ ds:List (DataW H),ds.length = fn.params.toList.length→s.fn H ds = { results:=[.lit (.bool true)],args:=ds })
  (witness:∃ (w:World) (tape:Tape) (i:Input),w.os = os∧(w.forCall tape i).Shaped Tryd.prog∧i.vars = []∧Input.okWide Tryd.prog (w.forCall tape i) .any w.heap.size f i∧Apj H enc s fn (w.forCall tape i).memory i.args∧({}:Assume).holds Tryd.prog (lone (Frame.enter Tryd.prog f i.args .normal) [] (w.forCall tape i)))
  (walk:∀ (W:World) (args:List Value) (ds:List (DataW H)) (ps:List MemPlace),(∀ (j:Nat) t v,fn.params[j]? = some t→args.toArray[j]? = some v→∃ b,Value.okWide Tryd.prog W .any b t v)→DataW.TrodAll enc Tryd.prog W 0 (fun _=>true) true fn.params.toList args ds ps →
   (DataW.weightsEach Tryd.prog fn.params.toList ds).all (· ≤ reachBytes) = true→Glob (roW W)→Agd (Iw Tryd.prog) f r args (roW W) [] (fun w ρ' σ'=>ρ' = roW W∧σ' = []∧w = .bool true)) :
  ReturnsInLeavingWide {} Tryd.checked os f .any (Apj H enc s fn) (s.post enc Tryd.prog fn false true false false):=by
 refine returnsInLeavingWide_of_good (C:=Tryd.checked) Art started witness ?_
 intro w tape i _ _ _ hok hpre _
 obtain ⟨_,_,_,fn',hfn',_,_,_,_,hval⟩:=hok
 have e:fn' = fn:=Option.some.inj (hfn'.symm.trans hfn)
 subst e
 obtain ⟨⟨⟨ds,gs,before,hw,_⟩,hL⟩,hz⟩:=hpre
 have hsz:=hz.weights hw
 have hw':=DataW.Whole.of_heap (w':=w.forCall tape i) (by rfl) hw
 have hL':=hL.of_heap (w':=w.forCall tape i) (by rfl)
 generalize w.forCall tape i = W at *
 obtain ⟨p,q,hA,hV,hb,hnf,hnd⟩:=hw'
 have hV':DataW.TrodVars enc Tryd.prog W (fun _=>true) [] gs q:=by rw [← hvars]; exact hV
 obtain ⟨rfl,rfl⟩:=trodVars_none hV'
 simp only [List.append_nil] at hb
 replace hb:=hb.symm
 subst hb
 have hvt:s.plain.varTypes Tryd.prog = []:=by unfold DataSpec.varTypes ChangeSpec.plain; rw [hvars]; rfl
 rw [show (OpenSpec.ofChange s).bare.plain.varTypes Tryd.prog = [] from hvt,List.append_nil,List.append_nil] at hsz
 obtain ⟨hl1,hl2⟩:=Sb hA
 have hargs:i.args.toList.toArray = i.args:=by simp
 have hbody:=walk W i.args.toList ds p (fun j t v h1 h2=>⟨_,hval j t v h1 (by rw [hargs] at h2; exact h2)⟩) hA hsz (Xc hL')
 have hW0:DataW.Whole enc Tryd.prog fn'.params.toList s.vars false W i.args.toList ds [] p:=⟨p,[],hA,hV,by simp,hnf,hnd⟩
 have hlt:∀ x ∈ p,x.block < W.heap.size:=fun x hx=>by simpa using hW0.lt x hx
 have hgo:=Zp (W0:=W) (Pst:=fun v W'=>s.post enc Tryd.prog fn' false true false false W i.args v W') hbody hi fun v ρ' σ' ⟨_,hσ,hv⟩=>⟨hσ,fun W' hbw=>by
  subst hv
  have er:(s.fn H (ds ++ [])) = { results:=[.lit (.bool true)],args:=ds }:=by rw [List.append_nil]; exact hspec ds hl2
  refine ⟨ds,[],p,[],p,[],hW0,?_,?_,?_,hbw.frame _,fun h=>by cases h⟩
  ·rw [er,hres]; exact trodAll_mk1 (shut_bool Bjf true)
  ·rw [er]; exact Oo hbw hts hlt hA
  ·rw [er,hvars]; rfl⟩
 rw [hargs] at hgo
 obtain ⟨M,last,o,w',t',h1,h2,h3,h4⟩:=Zb hgo Anl
 exact ⟨M,last,o,w',t',h1,h2,h3,h4.mono fun v hp=>ChangeSpec.post_blind hp⟩
/-- A tied card without a companion,of a function that starts goroutines. -/
theorem Bbv (Lk:Looks) {p:Pinned} {s:OpenSpec} {c:OpenClaim} (kinds:List LaidKind) (tests:Bool) (har:Bool × String) (lk:Bool)
  (hc:c.holds p s) (hw:c.wfByText s = true) (htie:c.laidByTextAt Lk p kinds tests)
  (hst:c.start = .entering) (hnb:c.noBlocks = false∧c.again = false) (hm:p.checked.prog.mainIs = some (har.1,har.2.toList)) (hn:(!har.1 && har.2.isEmpty && !lk) = false)
  (hl:∀ f fn,p.checked.prog.funcNamed c.func = some f→p.checked.prog.funcs[f]? = some fn→lk = p.checked.prog.looks []∧∀ (j:Nat) t,fn.params[j]? = some t→p.checked.prog.wantsStandIn t = false)
  (hg:true = c.goesBy p.checked.prog) :
  Claim7.holds p (.plain s) { stood:={ row:=c,standIns:=[],harness:=har,looks:=lk },kinds:=[],alts:=[],goes:=true,laidByText:=true,laidKinds:=kinds,laidTests:=tests,laidLooks:=Lk }:=by
 have h6:∀ r:OpenClaim,Claim7.isSixth { stood:={ row:=r,standIns:=[],harness:=har,looks:=lk },kinds:=[] } = false:=fun r=>by simpa [Claim7.isSixth] using hn
 exact ⟨Claim7.tied_new_at Lk kinds tests (Claim7.new_of_sixth hc har lk hst hnb hm (h6 c) hl) hw,(fun D hD=>by cases hD),htie,(fun h=>by cases h),hg⟩
end
section
open Go
def inR (n low high:Int):Bool:=decide (low ≤ n) && decide (n ≤ high)
theorem Fz {n low high:Int}:inR n low high = true↔low ≤ n∧n ≤ high:=by simp [inR]
theorem Tr {n low high:Int}:inR n low high = false↔n < low∨high < n:=by
 cases h:inR n low high
 ·have:¬ (low ≤ n∧n ≤ high):=fun h'=>by rw [Fz.2 h'] at h; cases h
  simp only [true_iff]; omega
 ·have:=Fz.1 h
  simp only [Bool.true_eq_false,false_iff]; omega
def Ef (x:Span) (low high:Int):Bool:=decide (low ≤ x.low) && decide (x.low ≤ x.high) && decide (x.high ≤ high)
theorem Eg {p:Nat→Prop} {i:Nat} (h:∀ j,j < i→p j) (h':p i):∀ j,j < i + 1→p j:=fun j hj=>by
 rcases Nat.lt_or_ge j i with hlt | hge
 ·exact h j hlt
 ·obtain rfl:j = i:=by omega
  exact h'
/-- A byte that no name has. -/
def Ov (c:Int):Bool:=(decide (c < 97) || decide (c > 122)) && (decide (c < 48) || decide (c > 57)) && (c != 45)
def Alm (s:ByteArray) (j:Nat):Bool:=match s[j]? with | some c=>!Ov ((c.toNat:Nat):Int) | none=>true
def Qb (s:ByteArray):Bool:=match s[0]? with | some c=>!decide (((c.toNat:Nat):Int) < 97) && !decide (((c.toNat:Nat):Int) > 122) | none=>true
def Hg (s:ByteArray):Bool:=inR s.size 1 14 && Qb s && (List.range s.size).all (Alm s)
theorem Bat {s:ByteArray}:(List.range s.size).all (Alm s) = true↔∀ j,j < s.size→Alm s j = true:=by simp
theorem Awa {s:ByteArray} {j:Nat} (h:j < s.size) (h0:Alm s j = false):(List.range s.size).all (Alm s) = false:=by
 cases hh:(List.range s.size).all (Alm s) with
 | false=>rfl
 | true=>rw [Bat.1 hh j h] at h0; cases h0
/-- The first index of a property. -/
def Cl (n:Nat) (p:Nat→Bool):Option Nat:=(List.range n).find? p
theorem Fh {n i:Nat} {p:Nat→Bool} (h:∀ j,j < i→p j = false) (hi:i < n) (hp:p i = true):Cl n p = some i:=by
 unfold Cl
 rw [List.find?_range_eq_some]
 exact ⟨hp,by simpa using hi,fun j hj=>by simp [h j hj]⟩
theorem Ep {n:Nat} {p:Nat→Bool} (h:∀ j,j < n→p j = false):Cl n p = none:=by
 unfold Cl
 rw [List.find?_eq_none]
 intro j hj
 simp [h j (by simpa using hj)]
theorem Ft {n:Nat} {p:Nat→Bool}:(∃ i,i < n∧p i = true∧(∀ j,j < i→p j = false)∧Cl n p = some i)∨((∀ j,j < n→p j = false)∧Cl n p = none):=by
 cases h:Cl n p with
 | some i =>
  unfold Cl at h
  rw [List.find?_range_eq_some] at h
  exact .inl ⟨i,by simpa using h.2.1,h.1,fun j hj=>by simpa using h.2.2 j hj,rfl⟩
 | none =>
  unfold Cl at h
  rw [List.find?_eq_none] at h
  exact .inr ⟨fun j hj=>by simpa using h j (by simpa using hj),rfl⟩
/-- The first fault of several. -/
def Hl (n:Nat) (f:Nat→Int):Int:=match Cl n (fun j=>f j != 0) with | some i=>f i | none=>0
theorem Db {n i:Nat} {f:Nat→Int} (h:∀ j,j < i→f j = 0) (hi:i < n) {v:Int} (hf:f i = v) (hv:v ≠ 0):Hl n f = v:=by
 subst hf
 unfold Hl
 rw [Fh (i:=i) (fun j hj=>by simp [h j hj]) hi (by simpa using hv)]
theorem Fb {n:Nat} {f:Nat→Int} (h:∀ j,j < n→f j = 0):Hl n f = 0:=by
 unfold Hl
 rw [Ep fun j hj=>by simp [h j hj]]
theorem Fx {n:Nat} {f:Nat→Int}:Hl n f = 0↔∀ j,j < n→f j = 0:=by
 refine ⟨fun h=>?_,Fb⟩
 rcases Ft (n:=n) (p:=fun j=>f j != 0) with ⟨i,hi,hp,hlt,he⟩ | ⟨h1,_⟩
 ·unfold Hl at h
  rw [he] at h
  exact absurd h (by simpa using hp)
 ·exact fun j hj=>by simpa using h1 j hj
def Xi (l:List ByteArray) (s:ByteArray) (j:Nat):Bool:=match l[j]? with | some x=>x.toList == s.toList | none=>false
def Aht (l:List ByteArray) (s:ByteArray):Int:=match Cl l.length (Xi l s) with | some i=>(i:Int) | none=>-1
def Nh (l:List ByteArray) (i:Nat):Int:=match l[i]? with | some x=>if Hg x then (if Aht (l.take i) x ≥ 0 then 5 else 0) else 4 | none=>0
def Dd (l:List ByteArray) (most:Int):Int:=if (l.length:Int) > most then 2 else Hl l.length (Nh l)
def orF (a b:Int):Int:=if a = 0 then b else a
theorem Gr {a b:Int} (h:a = 0):orF a b = b:=by simp [orF,h]
theorem Ry {a b:Int} (h:a ≠ 0):orF a b = a:=by simp [orF,h]
theorem Jx {a b:Int}:orF a b = 0↔a = 0∧b = 0:=by
 unfold orF
 split
 ·rename_i h; simp [h]
 ·rename_i h; simp [h]
def Nn (l:List Span) (i:Nat):Int:=match l[i]? with | some x=>if Ef x 0 1000 then 0 else 1 | none=>0
def Fm (l:List Span) (many:Int):Int:=if (l.length:Int) = many then Hl l.length (Nn l) else 2
/-- Another field before this one has its name. -/
def Mk (m:Market) (s:ByteArray) (k:Nat):Bool:=match m.fields[k]? with | some x=>x.name.toList == s.toList | none=>false
def fieldAt (m:Market) (i:Nat):Int:=match m.fields[i]? with
 | none=>0
 | some x=>if Hg x.name then (if (Cl i (Mk m x.name)).isSome then 5 else if inR x.house 0 ((m.houses.length:Int) - 1) then (if Ef x.grows 0 1000000 then Fm x.marks (m.marks.length:Int) else 1) else 6) else 4
def Gt (m:Market) (s:Sale) (k:Nat):Int:=match s.sellers[k]? with
 | none=>0
 | some h=>if inR h 0 ((m.houses.length:Int) - 1) then (match (if 0 < k then s.sellers[k - 1]? else none) with | some h'=>if h ≤ h' then 7 else 0 | none=>0) else 6
def Jb (m:Market) (i:Nat):Int:=match m.sales[i]? with
 | none=>0
 | some s=>if inR s.grams 0 1000000 then (if (s.sellers.length:Int) = 0 then 2 else Hl s.sellers.length (Gt m s)) else 1
def Ew (m:Market):Int:=if (m.fields.length:Int) > 6 then 2 else Hl m.fields.length (fieldAt m)
def Jc (m:Market):Int:=if (m.sales.length:Int) > 8 then 2 else Hl m.sales.length (Jb m)
def Cf (m:Market):Int:=orF (Dd m.houses 5) (orF (Dd m.marks 4) (orF (Ew m) (Jc m)))
theorem Re {x:Span} {low high:Int}:Ef x low high = true↔low ≤ x.low∧x.low ≤ x.high∧x.high ≤ high:=by simp [Ef,and_assoc]
def Qt (x:Span):Prop:=0 ≤ x.low∧x.low ≤ x.high∧x.high ≤ 1000
theorem Zj {l:List Span} {many:Int}:Fm l many = 0↔(l.length:Int) = many∧∀ (i:Nat) (x:Span),l[i]? = some x→Qt x:=by
 unfold Fm
 split
 ·rename_i h
  simp only [Fx,h,true_and]
  refine ⟨fun h' i x hx=>?_,fun h' j hj=>?_⟩
  ·have h1:=h' i (List.getElem?_eq_some_iff.1 hx).1
   simp only [Nn,hx] at h1
   split at h1
   ·rename_i h2; exact Re.1 h2
   ·cases h1
  ·obtain ⟨x,hx⟩:∃ x,l[j]? = some x:=⟨_,List.getElem?_eq_getElem hj⟩
   simp only [Nn,hx]
   rw [if_pos (Re.2 (h' j x hx))]
 ·rename_i h; simp [h]
/-- A valid market,told without codes. -/
structure MarketOk (m:Market):Prop where
 houses:Dd m.houses 5 = 0
 marks:Dd m.marks 4 = 0
 nfields:m.fields.length ≤ 6
 nsales:m.sales.length ≤ 8
 field:∀ (i:Nat) (x:FField),m.fields[i]? = some x→Hg x.name = true∧(∀ k,k < i→Mk m x.name k = false)∧(0 ≤ x.house∧x.house ≤ (m.houses.length:Int) - 1)∧(0 ≤ x.grows.low∧x.grows.low ≤ x.grows.high∧x.grows.high ≤ 1000000)∧x.marks.length = m.marks.length∧∀ (i:Nat) (y:Span),x.marks[i]? = some y→Qt y
 sale:∀ (i:Nat) (s:Sale),m.sales[i]? = some s→(0 ≤ s.grams∧s.grams ≤ 1000000)∧s.sellers ≠ []∧(∀ (k:Nat) (h:Int),s.sellers[k]? = some h→0 ≤ h∧h ≤ (m.houses.length:Int) - 1)∧∀ (k:Nat) (h h':Int),s.sellers[k]? = some h→s.sellers[k + 1]? = some h'→h < h'
theorem Fs {n:Nat} {p:Nat→Bool}:(Cl n p).isSome = false↔∀ j,j < n→p j = false:=by
 rcases Ft (n:=n) (p:=p) with ⟨i,hi,hp,_,he⟩ | ⟨h1,he⟩
 ·rw [he]; simp only [Option.isSome_some,Bool.true_eq_false,false_iff]
  exact fun h=>by rw [h i hi] at hp; cases hp
 ·rw [he]; simp only [Option.isSome_none,true_iff]; exact h1
theorem Ua {l:List ByteArray} {n:Int} (h:Dd l n = 0):(l.length:Int) ≤ n:=by
 unfold Dd at h
 split at h
 ·cases h
 ·omega
theorem Rg {m:Market} (h:Cf m = 0):MarketOk m:=by
 unfold Cf at h
 simp only [Jx] at h
 obtain ⟨h1,h2,h3,h4⟩:=h
 unfold Ew at h3
 unfold Jc at h4
 split at h3
 ·cases h3
 rename_i hn3
 split at h4
 ·cases h4
 rename_i hn4
 rw [Fx] at h3 h4
 refine ⟨h1,h2,by omega,by omega,fun i x hx=>?_,fun i s hs=>?_⟩
 ·have h5:=h3 i (List.getElem?_eq_some_iff.1 hx).1
  simp only [fieldAt,hx] at h5
  split at h5
  ·rename_i ha
   split at h5
   ·cases h5
   rename_i hb
   split at h5
   ·rename_i hc
    split at h5
    ·rename_i hd
     rw [Zj] at h5
     exact ⟨ha,Fs.1 (by simpa using hb),Fz.1 hc,Re.1 hd,by omega,h5.2⟩
    ·cases h5
   ·cases h5
  ·cases h5
 ·have h5:=h4 i (List.getElem?_eq_some_iff.1 hs).1
  simp only [Jb,hs] at h5
  split at h5
  ·rename_i ha
   split at h5
   ·cases h5
   rename_i hb
   rw [Fx] at h5
   have hsel:∀ k h,s.sellers[k]? = some h→inR h 0 ((m.houses.length:Int) - 1) = true∧∀ h',(if 0 < k then s.sellers[k - 1]? else none) = some h'→h' < h:=fun k h hk=>by
    have h6:=h5 k (List.getElem?_eq_some_iff.1 hk).1
    simp only [Gt,hk] at h6
    split at h6
    ·rename_i hc
     refine ⟨hc,fun h' hh'=>?_⟩
     rw [hh'] at h6
     simp only at h6
     split at h6
     ·cases h6
     ·omega
    ·cases h6
   refine ⟨Fz.1 ha,fun e=>hb (by rw [e]; rfl),fun k h hk=>Fz.1 (hsel k h hk).1,fun k h h' hk hk'=>(hsel (k + 1) h' hk').2 h ?_⟩
   rw [if_pos (by omega)]; exact hk
  ·cases h5
def Ee (m:Market) (marks:List Span):Int:=orF (Cf m) (Fm marks (m.marks.length:Int))
def Tz (a b x:Span) (part:Int):Bool:=decide (part * a.low + (100 - part) * b.low > 100 * x.high) || decide (part * a.high + (100 - part) * b.high < 100 * x.low)
/-- A mark that two fields,so mixed,cannot show. -/
def Ho (fa fb:FField) (marks:List Span) (part:Int) (k:Nat):Bool:=match fa.marks[k]?,fb.marks[k]?,marks[k]? with
 | some a,some b,some x=>Tz a b x part
 | _,_,_=>false
def Gm (fa fb:FField) (marks:List Span) (part:Int):Bool:=(Cl marks.length (Ho fa fb marks part)).isNone
theorem Yv {fa fb:FField} {marks:List Span} {part:Int} {k:Nat} (hk:k < marks.length) (h:Ho fa fb marks part k = true):Gm fa fb marks part = false:=by
 unfold Gm
 cases he:Cl marks.length (Ho fa fb marks part) with
 | some i=>rfl
 | none =>
  have:=Fs.1 (show (Cl marks.length (Ho fa fb marks part)).isSome = false by rw [he]; rfl) k hk
  rw [h] at this; cases this
theorem Aij {fa fb:FField} {marks:List Span} {part:Int} (h:∀ k,k < marks.length→Ho fa fb marks part k = false):Gm fa fb marks part = true:=by
 unfold Gm; rw [Ep h]; rfl
theorem Aff {p x:Int} (hp:0 ≤ p∧p ≤ 100) (hx:0 ≤ x∧x ≤ 1000):0 ≤ p * x∧p * x ≤ 100000 :=
 ⟨Int.mul_nonneg hp.1 hx.1,by have:=Int.mul_le_mul hp.2 hx.2 hx.1 (by omega:(0:Int) ≤ 100); omega⟩
/-- A market with marks to be asked: what is needed that nothing is out of range. -/
structure AskOk (m:Market) (marks:List Span):Prop where
 fields:∀ (i:Nat) (x:FField),m.fields[i]? = some x→x.marks.length = marks.length∧∀ (i:Nat) (y:Span),x.marks[i]? = some y→Qt y
 marks:∀ (i:Nat) (y:Span),marks[i]? = some y→Qt y
theorem Xw {m:Market} {marks:List Span} (h:Ee m marks = 0):AskOk m marks∧MarketOk m:=by
 unfold Ee at h
 rw [Jx,Zj] at h
 have hm:=Rg h.1
 exact ⟨⟨fun i x hx=>⟨by have:=(hm.field i x hx).2.2.2.2.1; omega,(hm.field i x hx).2.2.2.2.2⟩,h.2.2⟩,hm⟩
def Iv (m:Market) (marks:List Span) (i:Nat):Bool:=match m.fields[i]? with | some x=>Gm x x marks 50 | none=>false
def Sn (m:Market) (marks:List Span):List Int:=if Ee m marks = 0 then ((List.range m.fields.length).filter (Iv m marks)).map Int.ofNat else []
def Sm (m:Market) (marks:List Span):Int:=orF (Ee m marks) 0
def Rx (m:Market) (marks:List Span) (i k p:Nat):Bool:=match m.fields[i]?,m.fields[k]? with | some x,some y=>Gm x y marks (p:Int) | _,_=>false
def pAt (m:Market) (marks:List Span) (i k:Nat):Option Nat:=Cl 99 (fun q=>Rx m marks i k (q + 1))
def kOk (m:Market) (marks:List Span) (i k:Nat):Bool:=decide (i < k) && (pAt m marks i k).isSome
def kAt (m:Market) (marks:List Span) (i:Nat):Option Nat:=Cl m.fields.length (kOk m marks i)
def iAt (m:Market) (marks:List Span):Option Nat:=Cl m.fields.length (fun i=>(kAt m marks i).isSome)
/-- The first two fields that a tin can be of,and the hundredths. -/
def Qw (m:Market) (marks:List Span):Option (Nat × Nat × Nat):=match iAt m marks with
 | some i=>match kAt m marks i with
  | some k=>match pAt m marks i k with
   | some q=>some (i,k,q + 1)
   | none=>none
  | none=>none
 | none=>none
def Qx (m:Market) (marks:List Span):Value:=if Ee m marks = 0 then (match Qw m marks with
  | some (i,k,p)=>.tuple #[.int .i64 i,.int .i64 k,.int .i64 p,.bool true,.int .i64 0]
  | none=>.tuple #[.int .i64 0,.int .i64 0,.int .i64 0,.bool false,.int .i64 0])
 else .tuple #[.int .i64 0,.int .i64 0,.int .i64 0,.bool false,.int .i64 (Ee m marks)]
theorem Aax {m:Market} {marks:List Span} {i k q:Nat} (hi:i < m.fields.length) (hk:k < m.fields.length) (hik:i < k) (hq:q < 99) (h1:∀ j,j < i→(kAt m marks j).isSome = false) (h2:∀ j,j < k→kOk m marks i j = false)
  (h3:∀ j,j < q→Rx m marks i k (j + 1) = false) (h:Rx m marks i k (q + 1) = true):Qw m marks = some (i,k,q + 1):=by
 have e3:pAt m marks i k = some q:=Fh h3 hq h
 have e2:kAt m marks i = some k:=Fh h2 hk (by simp [kOk,hik,e3])
 have e1:iAt m marks = some i:=Fh h1 hi (by simp [e2])
 unfold Qw
 simp only [e1,e2,e3]
theorem Aaw {m:Market} {marks:List Span} (h1:∀ j,j < m.fields.length→(kAt m marks j).isSome = false):Qw m marks = none:=by
 have e1:iAt m marks = none:=Ep h1
 unfold Qw
 simp only [e1]
theorem Aip {m:Market} {marks:List Span} {i k:Nat} (h:∀ j,j < 99→Rx m marks i k (j + 1) = false):(pAt m marks i k).isSome = false:=by
 unfold pAt; rw [Ep h]; rfl
theorem Aib {m:Market} {marks:List Span} {i:Nat} (h:∀ j,j < m.fields.length→kOk m marks i j = false):(kAt m marks i).isSome = false:=by
 unfold kAt; rw [Ep h]; rfl
theorem Aif {α:Type} [DecidableEq α] {a b:List α} (hl:a.length = b.length) (h:∀ i,i < a.length→a[i]? = b[i]?):a = b:=by
 apply List.ext_getElem?
 intro i
 rcases Nat.lt_or_ge i a.length with hi | hi
 ·exact h i hi
 ·rw [List.getElem?_eq_none hi,List.getElem?_eq_none (by omega)]
def atP {α:Type} (l:List α) (p:α→Bool) (i:Nat):Bool:=match l[i]? with | some x=>p x | none=>false
def Oi {α:Type} (l:List α) (p:α→Bool):Int:=match Cl l.length (atP l p) with | some i=>(i:Int) | none=>-1
theorem Yq {α:Type} {l:List α} {p:α→Bool}:decide (Oi l p ≥ 0) = l.any p:=by
 rw [Bool.eq_iff_iff,decide_eq_true_eq,List.any_eq_true]
 unfold Oi
 rcases Ft (n:=l.length) (p:=atP l p) with ⟨i,hi,hp,_,he⟩ | ⟨h1,he⟩
 ·rw [he]
  simp only [ge_iff_le,Int.natCast_nonneg,true_iff]
  unfold atP at hp
  cases hx:l[i]? with
  | none=>rw [hx] at hp; cases hp
  | some x=>rw [hx] at hp; exact ⟨x,List.mem_of_getElem? hx,hp⟩
 ·rw [he]
  constructor
  ·intro h; simp at h
  ·rintro ⟨x,hx,hs⟩
   obtain ⟨i,hi⟩:=List.getElem?_of_mem hx
   have:=h1 i (List.getElem?_eq_some_iff.1 hi).1
   unfold atP at this
   simp only [hi,hs] at this
   cases this
def inL (l:List ByteArray) (k:ByteArray):Bool:=l.any fun x=>k.toList == x.toList
theorem Tq {l:List ByteArray} {i:Nat} {a:ByteArray} (h:l[i]? = some a) (k:ByteArray):(k.toList == a.toList || inL (l.take i) k) = inL (l.take (i + 1)) k:=by
 unfold inL
 rw [List.take_add_one,h,List.any_append]
 simp [Bool.or_comm]
theorem Yl {l:List ByteArray} {s:ByteArray}:Aht l s ≥ 0↔inL l s = true:=by
 unfold Aht inL
 rcases Ft (n:=l.length) (p:=Xi l s) with ⟨i,hi,hp,_,he⟩ | ⟨h1,he⟩
 ·rw [he]
  simp only [ge_iff_le,Int.natCast_nonneg,true_iff,List.any_eq_true]
  unfold Xi at hp
  cases hx:l[i]? with
  | none=>rw [hx] at hp; cases hp
  | some x =>
   rw [hx] at hp
   exact ⟨x,List.mem_of_getElem? hx,by rw [eq_of_beq hp]; simp⟩
 ·rw [he]
  simp only [ge_iff_le,List.any_eq_true]
  constructor
  ·intro h; omega
  ·rintro ⟨x,hx,hs⟩
   obtain ⟨i,hi⟩:=List.getElem?_of_mem hx
   have:=h1 i (List.getElem?_eq_some_iff.1 hi).1
   unfold Xi at this
   rw [hi,eq_of_beq hs] at this
   simp at this
theorem Ail {l:List ByteArray} {i:Nat} {a:ByteArray} (h:l[i]? = some a) (hn:Hg a = false):Nh l i = 4:=by simp [Nh,h,hn]
theorem Aim {l:List ByteArray} {i:Nat} {a:ByteArray} (h:l[i]? = some a) (hn:Hg a = true) (hp:inL (l.take i) a = true):Nh l i = 5:=by
 simp only [Nh,h,hn,if_true]; rw [if_pos (Yl.2 hp)]
theorem Aik {l:List ByteArray} {i:Nat} {a:ByteArray} (h:l[i]? = some a) (hn:Hg a = true) (hp:inL (l.take i) a = false):Nh l i = 0:=by
 simp only [Nh,h,hn,if_true]
 rw [if_neg (fun h'=>by rw [Yl.1 h'] at hp; cases hp)]
/-- The bytes of a name. -/
theorem Akl {s:ByteArray}:(s.data.toList.any fun c=>Ov ((c.toNat:Nat):Int)) = !(List.range s.size).all (Alm s):=by
 rw [Bool.eq_iff_iff]
 simp only [List.any_eq_true,Bool.not_eq_true',List.all_eq_false,List.mem_range]
 have hget:∀ i (h:i < s.size),s[i]? = some (s.data[i]'h):=fun i h=>by
  rw [getElem?_pos s i h]; rfl
 constructor
 ·rintro ⟨c,hc,hb⟩
  obtain ⟨i,hi,rfl⟩:=List.getElem_of_mem hc
  have hi':i < s.size:=by simpa using hi
  refine ⟨i,hi',?_⟩
  simp only [Alm,hget i hi']
  simpa using hb
 ·rintro ⟨i,hi,hb⟩
  refine ⟨s.data[i]'hi,by simp,?_⟩
  simp only [Alm,hget i hi] at hb
  simpa using hb
end
section
set_option maxHeartbeats 1000000
open Go
variable {mn:Bool} {X:Frame→List Frame→Ro→Own→Cy→Prop} {ρ:Ro} {σ:Own}
theorem Jl {n low high:Int} :CallsH (CX mn X) 65 #[(iV (n)),(iV (low)),(iV (high))] ρ σ (rP ρ σ (.bool (inR n low high))):=by
 refine Bh (n:=15) (args:=[(iV (n)),(iV (low)),(iV (high))]) [6] Bkq rfl rfl rfl rfl fun Q hret hnor=>w_q rfl rfl fun K1 k1=>Lo (.bool (false)) (Arx rfl rfl k1 fun K2 k2=>Asf (iV (low)) (Asf (iV (n)) (l_v (Uz rfl rfl) (Asf (.bool (decide (low ≤ n))) (Cn (decide (low ≤ n)) (fun b3=>?_) (fun b3=>?_))))))
 ·have q3:=of_decide_eq_true b3
  refine l_M (iV (n)) (gY rfl b3) rfl (l_M (iV (high)) (gY rfl b3) rfl (Aa (gY rfl b3) (Uz rfl rfl) (l_v (Bt rfl b3 (v:=(.bool (decide (n ≤ high)))) rfl) (Lo (.bool (decide (n ≤ high))) (l_k k2 (Aq (hret _ _ _ ⟨rfl,rfl,eT (.bool (decide (n ≤ high))) ?_⟩)))))))
  simp only [inR,b3,Bool.true_and,Bool.false_and,Bool.and_true,Bool.and_false,Bool.true_or,Bool.false_or,Bool.or_true,Bool.or_false,Bool.not_true,Bool.not_false]
 have q3:=of_decide_eq_false b3
 refine Ap (gN rfl b3) (Ap (gN rfl b3) (Ap (gN rfl b3) (l_v (Bn rfl b3 (v:=(.bool (false))) rfl) (Lo (.bool (false)) (l_k k2 (Aq (hret _ _ _ ⟨rfl,rfl,eT (.bool (false)) ?_⟩)))))))
 simp only [inR,b3,Bool.true_and,Bool.false_and,Bool.and_true,Bool.and_false,Bool.true_or,Bool.false_or,Bool.or_true,Bool.or_false,Bool.not_true,Bool.not_false]
theorem Ave {n low high:Int} :CallsH (CX mn X) 12 #[(iV (n)),(iV (low)),(iV (high))] ρ σ (rP ρ σ (.bool (inR n low high))):=by
 refine Bh (n:=15) (args:=[(iV (n)),(iV (low)),(iV (high))]) [6] Bjm rfl rfl rfl rfl fun Q hret hnor=>w_q rfl rfl fun K1 k1=>Lo (.bool (false)) (Arx rfl rfl k1 fun K2 k2=>Asf (iV (low)) (Asf (iV (n)) (l_v (Uz rfl rfl) (Asf (.bool (decide (low ≤ n))) (Cn (decide (low ≤ n)) (fun b3=>?_) (fun b3=>?_))))))
 ·have q3:=of_decide_eq_true b3
  refine l_M (iV (n)) (gY rfl b3) rfl (l_M (iV (high)) (gY rfl b3) rfl (Aa (gY rfl b3) (Uz rfl rfl) (l_v (Bt rfl b3 (v:=(.bool (decide (n ≤ high)))) rfl) (Lo (.bool (decide (n ≤ high))) (l_k k2 (Aq (hret _ _ _ ⟨rfl,rfl,eT (.bool (decide (n ≤ high))) ?_⟩)))))))
  simp only [inR,b3,Bool.true_and,Bool.false_and,Bool.and_true,Bool.and_false,Bool.true_or,Bool.false_or,Bool.or_true,Bool.or_false,Bool.not_true,Bool.not_false]
 have q3:=of_decide_eq_false b3
 refine Ap (gN rfl b3) (Ap (gN rfl b3) (Ap (gN rfl b3) (l_v (Bn rfl b3 (v:=(.bool (false))) rfl) (Lo (.bool (false)) (l_k k2 (Aq (hret _ _ _ ⟨rfl,rfl,eT (.bool (false)) ?_⟩)))))))
 simp only [inR,b3,Bool.true_and,Bool.false_and,Bool.and_true,Bool.and_false,Bool.true_or,Bool.false_or,Bool.or_true,Bool.or_false,Bool.not_true,Bool.not_false]
theorem Yc {x:Span} {vx:Value} {low high:Int} (rx:Val ρ vx x):CallsH (CX mn X) 87 #[vx,(iV (low)),(iV (high))] ρ σ (rP ρ σ (.bool (Ef x low high))):=by
 refine Bh (n:=24) (args:=[vx,(iV (low)),(iV (high))]) [6] Tryd.func87 rfl rfl rfl rfl fun Q hret hnor=>w_q rfl rfl fun K1 k1=>Arv (Eb (v:=vx) rfl fun k2=>?_)
 refine Bb (a:=x) rx fun ρ2 l2 r2=>Lo (.bool (false)) (Arx rfl rfl k1 fun K3 k3=>Asf (iV (low)) (Arw (Ay Span.f_low Bie rfl rfl ty3 (by decide) rfl r2) fun v4 r4=>?_))
 have ⟨g5a,g5b⟩:=At.rng r4
 refine l_v (Bc ty3 rfl r4) (l_v (Uz rfl rfl) (Asf (.bool (decide (low ≤ x.low))) (Cn (decide (low ≤ x.low)) (fun b6=>?_) (fun b6=>?_))))
 ·have q6:=of_decide_eq_true b6
  refine Ak (gY rfl b6) (Ay Span.f_low Bie rfl rfl ty3 (by decide) rfl r2) fun v7 r7=>?_
  have ⟨g8a,g8b⟩:=At.rng r7
  refine Aa (gY rfl b6) (Bc ty3 rfl r7) (Ak (gY rfl b6) (Ay Span.f_high Bie rfl rfl ty3 (by decide) rfl r2) fun v9 r9=>?_)
  have ⟨g10a,g10b⟩:=At.rng r9
  refine Aa (gY rfl b6) (Bc ty3 rfl r9) (Aa (gY rfl b6) (Uz rfl rfl) (l_v (Bt rfl b6 (v:=(.bool (decide (x.low ≤ x.high)))) rfl) (Asf (.bool (decide (x.low ≤ x.high))) (Cn (decide (x.low ≤ x.high)) (fun b11=>?_) (fun b11=>?_)))))
  ·have q11:=of_decide_eq_true b11
   refine Ak (gY rfl b11) (Ay Span.f_high Bie rfl rfl ty3 (by decide) rfl r2) fun v12 r12=>?_
   have ⟨g13a,g13b⟩:=At.rng r12
   refine Aa (gY rfl b11) (Bc ty3 rfl r12) (l_M (iV (high)) (gY rfl b11) rfl (Aa (gY rfl b11) (Uz rfl rfl) (l_v (Bt rfl b11 (v:=(.bool (decide (x.high ≤ high)))) rfl) (Lo (.bool (decide (x.high ≤ high))) (l_k k3 (Aj (Bmi l2) (Aq (hret _ _ _ ⟨rfl,rfl,eT (.bool (decide (x.high ≤ high))) ?_⟩))))))))
   simp only [Ef,b6,b11,Bool.true_and,Bool.false_and,Bool.and_true,Bool.and_false,Bool.true_or,Bool.false_or,Bool.or_true,Bool.or_false,Bool.not_true,Bool.not_false]
  have q11:=of_decide_eq_false b11
  refine Ap (gN rfl b11) (Ap (gN rfl b11) (Ap (gN rfl b11) (Ap (gN rfl b11) (l_v (Bn rfl b11 (v:=(.bool (false))) rfl) (Lo (.bool (false)) (l_k k3 (Aj (Bmi l2) (Aq (hret _ _ _ ⟨rfl,rfl,eT (.bool (false)) ?_⟩)))))))))
  simp only [Ef,b6,b11,Bool.true_and,Bool.false_and,Bool.and_true,Bool.and_false,Bool.true_or,Bool.false_or,Bool.or_true,Bool.or_false,Bool.not_true,Bool.not_false]
 have q6:=of_decide_eq_false b6
 refine Ap (gN rfl b6) (Ap (gN rfl b6) (Ap (gN rfl b6) (Ap (gN rfl b6) (Ap (gN rfl b6) (l_v (Bn rfl b6 (v:=(.bool (false))) rfl) (Asf (.bool (false)) (Ap (gN rfl rfl) (Ap (gN rfl rfl) (Ap (gN rfl rfl) (Ap (gN rfl rfl) (l_v (Bn rfl rfl (v:=(.bool (false))) rfl) (Lo (.bool (false)) (l_k k3 (Aj (Bmi l2) (Aq (hret _ _ _ ⟨rfl,rfl,eT (.bool (false)) ?_⟩))))))))))))))))
 simp only [Ef,b6,Bool.true_and,Bool.false_and,Bool.and_true,Bool.and_false,Bool.true_or,Bool.false_or,Bool.or_true,Bool.or_false,Bool.not_true,Bool.not_false]
theorem Avf {x:Span} {vx:Value} {low high:Int} (rx:Val ρ vx x):CallsH (CX mn X) 13 #[vx,(iV (low)),(iV (high))] ρ σ (rP ρ σ (.bool (Ef x low high))):=by
 refine Bh (n:=24) (args:=[vx,(iV (low)),(iV (high))]) [6] Bli rfl rfl rfl rfl fun Q hret hnor=>w_q rfl rfl fun K1 k1=>Arv (Eb (v:=vx) rfl fun k2=>?_)
 refine Bb (a:=x) rx fun ρ2 l2 r2=>Lo (.bool (false)) (Arx rfl rfl k1 fun K3 k3=>Asf (iV (low)) (Arw (Ay Span.f_low Bie rfl rfl ty3 (by decide) rfl r2) fun v4 r4=>?_))
 have ⟨g5a,g5b⟩:=At.rng r4
 refine l_v (Bc ty3 rfl r4) (l_v (Uz rfl rfl) (Asf (.bool (decide (low ≤ x.low))) (Cn (decide (low ≤ x.low)) (fun b6=>?_) (fun b6=>?_))))
 ·have q6:=of_decide_eq_true b6
  refine Ak (gY rfl b6) (Ay Span.f_low Bie rfl rfl ty3 (by decide) rfl r2) fun v7 r7=>?_
  have ⟨g8a,g8b⟩:=At.rng r7
  refine Aa (gY rfl b6) (Bc ty3 rfl r7) (Ak (gY rfl b6) (Ay Span.f_high Bie rfl rfl ty3 (by decide) rfl r2) fun v9 r9=>?_)
  have ⟨g10a,g10b⟩:=At.rng r9
  refine Aa (gY rfl b6) (Bc ty3 rfl r9) (Aa (gY rfl b6) (Uz rfl rfl) (l_v (Bt rfl b6 (v:=(.bool (decide (x.low ≤ x.high)))) rfl) (Asf (.bool (decide (x.low ≤ x.high))) (Cn (decide (x.low ≤ x.high)) (fun b11=>?_) (fun b11=>?_)))))
  ·have q11:=of_decide_eq_true b11
   refine Ak (gY rfl b11) (Ay Span.f_high Bie rfl rfl ty3 (by decide) rfl r2) fun v12 r12=>?_
   have ⟨g13a,g13b⟩:=At.rng r12
   refine Aa (gY rfl b11) (Bc ty3 rfl r12) (l_M (iV (high)) (gY rfl b11) rfl (Aa (gY rfl b11) (Uz rfl rfl) (l_v (Bt rfl b11 (v:=(.bool (decide (x.high ≤ high)))) rfl) (Lo (.bool (decide (x.high ≤ high))) (l_k k3 (Aj (Bmi l2) (Aq (hret _ _ _ ⟨rfl,rfl,eT (.bool (decide (x.high ≤ high))) ?_⟩))))))))
   simp only [Ef,b6,b11,Bool.true_and,Bool.false_and,Bool.and_true,Bool.and_false,Bool.true_or,Bool.false_or,Bool.or_true,Bool.or_false,Bool.not_true,Bool.not_false]
  have q11:=of_decide_eq_false b11
  refine Ap (gN rfl b11) (Ap (gN rfl b11) (Ap (gN rfl b11) (Ap (gN rfl b11) (l_v (Bn rfl b11 (v:=(.bool (false))) rfl) (Lo (.bool (false)) (l_k k3 (Aj (Bmi l2) (Aq (hret _ _ _ ⟨rfl,rfl,eT (.bool (false)) ?_⟩)))))))))
  simp only [Ef,b6,b11,Bool.true_and,Bool.false_and,Bool.and_true,Bool.and_false,Bool.true_or,Bool.false_or,Bool.or_true,Bool.or_false,Bool.not_true,Bool.not_false]
 have q6:=of_decide_eq_false b6
 refine Ap (gN rfl b6) (Ap (gN rfl b6) (Ap (gN rfl b6) (Ap (gN rfl b6) (Ap (gN rfl b6) (l_v (Bn rfl b6 (v:=(.bool (false))) rfl) (Asf (.bool (false)) (Ap (gN rfl rfl) (Ap (gN rfl rfl) (Ap (gN rfl rfl) (Ap (gN rfl rfl) (l_v (Bn rfl rfl (v:=(.bool (false))) rfl) (Lo (.bool (false)) (l_k k3 (Aj (Bmi l2) (Aq (hret _ _ _ ⟨rfl,rfl,eT (.bool (false)) ?_⟩))))))))))))))))
 simp only [Ef,b6,Bool.true_and,Bool.false_and,Bool.and_true,Bool.and_false,Bool.true_or,Bool.false_or,Bool.or_true,Bool.or_false,Bool.not_true,Bool.not_false]
theorem Awf {s:ByteArray} :CallsH (CX mn X) 32 #[(.string (s))] ρ σ (rP ρ σ (.bool (Hg s))):=by
 refine Bh (n:=46) (args:=[(.string (s))]) [2] Bla rfl rfl rfl rfl fun Q hret hnor=>w_q rfl rfl fun K1 k1=>Lo (.bool (false)) (Ary rfl rfl k1 fun K2 K3 k2 k3=>Asf (.string (s)) (l_v (Afz Bih (s:=s) rfl) (Arv (Bm (Ave) Bjm rfl rfl ⟨rfl,rfl,rfl,trivial⟩ ?_))))
 refine l_v (Iy rfl) (Asf (.bool (!(inR (((s.size:Nat):Int)) 1 14))) (Cn (!(inR (((s.size:Nat):Int)) 1 14)) (fun b4=>?_) (fun b4=>?_)))
 ·have b5:=not_eq_t b4
  have q5:=Tr.1 b5
  refine Ap (gN rfl b4) (Ap (gN rfl b4) (Ap (gN rfl b4) (l_v (Bt rfl b4 (v:=(.bool (true))) rfl) (Asf (.bool (true)) (Ap (gN rfl rfl) (Ap (gN rfl rfl) (Ap (gN rfl rfl) (l_v (Bt rfl rfl (v:=(.bool (true))) rfl) (l_k k3 (Co rfl rfl (w_q rfl rfl fun K6 k6=>Lo (.bool (false)) (l_k k6 (Aq (hret _ _ _ ⟨rfl,rfl,eT (.bool (false)) ?_⟩))))))))))))))
  simp only [Hg,Qb,b4,b5,Bool.true_and,Bool.false_and,Bool.and_true,Bool.and_false,Bool.true_or,Bool.false_or,Bool.or_true,Bool.or_false,Bool.not_true,Bool.not_false]
 have b7:=not_eq_f b4
 have q7:=Fz.1 b7
 refine l_M (.string (s)) (gY rfl b4) rfl ?_
 obtain ⟨c8,hc8⟩:=Alc (s:=s) (i:=0) (by omega)
 refine Aa (gY rfl b4) (Ace 0 c8 Bih rfl (q:=0) rfl rfl hc8) (Aa (gY rfl b4) (Da rfl rfl) (l_v (Bn rfl b4 (v:=(.bool (decide (((c8.toNat:Nat):Int) < 97)))) rfl) (Asf (.bool (decide (((c8.toNat:Nat):Int) < 97))) (Cn (decide (((c8.toNat:Nat):Int) < 97)) (fun b9=>?_) (fun b9=>?_)))))
 ·have q9:=of_decide_eq_true b9
  refine Ap (gN rfl b9) (Ap (gN rfl b9) (Ap (gN rfl b9) (l_v (Bt rfl b9 (v:=(.bool (true))) rfl) (l_k k3 (Co rfl rfl (w_q rfl rfl fun K10 k10=>Lo (.bool (false)) (l_k k10 (Aq (hret _ _ _ ⟨rfl,rfl,eT (.bool (false)) ?_⟩)))))))))
  simp only [Hg,Qb,hc8,b4,b7,b9,Bool.true_and,Bool.false_and,Bool.and_true,Bool.and_false,Bool.true_or,Bool.false_or,Bool.or_true,Bool.or_false,Bool.not_true,Bool.not_false]
 have q9:=of_decide_eq_false b9
 refine l_M (.string (s)) (gY rfl b9) rfl (Aa (gY rfl b9) (Ace 0 c8 Bih rfl (q:=0) rfl rfl hc8) (Aa (gY rfl b9) (Gl rfl rfl) (l_v (Bn rfl b9 (v:=(.bool (decide (((c8.toNat:Nat):Int) > 122)))) rfl) (l_k k3 (Asg (t:=decide (((c8.toNat:Nat):Int) > 122)) rfl (fun b12=>?_) (fun b12=>?_))))))
 ·have q12:=of_decide_eq_true b12
  refine w_q rfl rfl fun K13 k13=>Lo (.bool (false)) (l_k k13 (Aq (hret _ _ _ ⟨rfl,rfl,eT (.bool (false)) ?_⟩)))
  simp only [Hg,Qb,hc8,b4,b7,b9,b12,Bool.true_and,Bool.false_and,Bool.and_true,Bool.and_false,Bool.true_or,Bool.false_or,Bool.or_true,Bool.or_false,Bool.not_true,Bool.not_false]
 have q12:=of_decide_eq_false b12
 refine Al (k2 _ _ _ _ ?_)
 refine Asb rfl rfl fun K14 K15 k14 k15=>Lo (iV (0)) (l_k k15 (Ao (Cc (fun mm ee dd ρ' σ'=>∃ (i:Nat),(s.size - i) = mm∧[] = dd∧ρ = ρ'∧σ = σ'∧ee 0 = (.string (s))∧ee 3 = (iV ((i:Int)))∧(i ≤ s.size)∧(∀ j,j < i→Alm s j = true)∧True) (m:=_) ⟨0,rfl,rfl,rfl,rfl,rfl,rfl,(Nat.zero_le _),(fun j h=>absurd h (Nat.not_lt_zero _)),trivial⟩ ?_)))
 rintro m16 e16 _ _ _ ⟨i,rfl,rfl,rfl,rfl,h16_0,h16_3,p16_0,p16_1,_⟩
 refine Asb rfl rfl fun K17 K18 k17 k18=>l_v (Ah (v:=(iV ((i:Int)))) h16_3) (l_v (Ah (v:=(.string (s))) h16_0) (l_v (Afz Bih (s:=s) rfl) (l_v (Da rfl rfl) (l_k k18 (Asg (t:=decide ((i:Int) < ((s.size:Nat):Int))) rfl (fun b19=>?_) (fun b19=>?_))))))
 ·have q19:=of_decide_eq_true b19
  refine Al (k17 _ _ _ _ ?_)
  refine Ai fun K20 k20=>Ao (w_q rfl rfl fun K21 k21=>l_v (Ah (v:=(.string (s))) h16_0) (l_v (Ah (v:=(iV ((i:Int)))) h16_3) ?_))
  obtain ⟨c22,hc22⟩:=Alc (s:=s) (i:=i) (by omega)
  refine l_v (Ace i c22 Bih rfl (q:=(i:Int)) rfl rfl hc22) (Lo (.int .u8 (((c22.toNat:Nat):Int))) (Arx rfl rfl k21 fun K23 k23=>Asf (.int .u8 (((c22.toNat:Nat):Int))) (l_v (Da rfl rfl) (Asf (.bool (decide (((c22.toNat:Nat):Int) < 97))) (Cn (decide (((c22.toNat:Nat):Int) < 97)) (fun b24=>?_) (fun b24=>?_))))))
  ·have q24:=of_decide_eq_true b24
   refine Ap (gN rfl b24) (Ap (gN rfl b24) (l_v (Bt rfl b24 (v:=(.bool (true))) rfl) (Asf (.bool (true)) (l_M (.int .u8 (((c22.toNat:Nat):Int))) (gY rfl rfl) rfl (Aa (gY rfl rfl) (Da rfl rfl) (l_M (.bool (decide (((c22.toNat:Nat):Int) < 48))) (gY rfl rfl) rfl (Cn (decide (((c22.toNat:Nat):Int) < 48)) (fun b25=>?_) (fun b25=>?_))))))))
   ·have q25:=of_decide_eq_true b25
    refine Ap (gN rfl b25) (Ap (gN rfl b25) (Aa (gY rfl rfl) (Bt rfl b25 (v:=(.bool (true))) rfl) (l_v (Bt rfl rfl (v:=(.bool (true))) rfl) (Asf (.bool (true)) (l_M (.int .u8 (((c22.toNat:Nat):Int))) (gY rfl rfl) rfl (Aa (gY rfl rfl) (Dg rfl rfl) (l_v (Bt rfl rfl (v:=(.bool (((c22.toNat:Nat):Int) != 45))) rfl) (l_k k23 (Asg (t:=((c22.toNat:Nat):Int) != 45) rfl (fun b26=>?_) (fun b26=>?_))))))))))
    ·have q26:=Ls b26
     refine w_q rfl rfl fun K27 k27=>Lo (.bool (false)) (l_k k27 (Aq (hret _ _ _ ⟨rfl,rfl,eT (.bool (false)) ?_⟩)))
     have hbad:Alm s i = false:=by simp only [Alm,hc22,Ov,b4,b7,b9,b12,b19,b24,b25,b26,Bool.true_and,Bool.false_and,Bool.and_true,Bool.and_false,Bool.true_or,Bool.false_or,Bool.or_true,Bool.or_false,Bool.not_true,Bool.not_false]
     have hall:=Awa (by omega) hbad
     simp only [Hg,hall,b4,b7,b9,b12,b19,b24,b25,b26,Bool.true_and,Bool.false_and,Bool.and_true,Bool.and_false,Bool.true_or,Bool.false_or,Bool.or_true,Bool.or_false,Bool.not_true,Bool.not_false]
    have q26:=Jh b26
    refine Al (k20 _ _ _ _ ?_)
    refine Ag rfl rfl (l_v (Ah (v:=(iV ((i:Int)))) h16_3) (l_v (Br rfl rfl (z:=(((i + 1):Nat):Int)) wrE) (Lo (iV ((((i + 1):Nat):Int))) (Ac ?_))))
    refine ⟨_,?_,((i + 1)),rfl,rfl,rfl,rfl,h16_0,rfl,(by omega),(Eg p16_1 (by simp only [Alm,hc22,Ov,b4,b7,b9,b12,b19,b24,b25,b26,Bool.true_and,Bool.false_and,Bool.and_true,Bool.and_false,Bool.true_or,Bool.false_or,Bool.or_true,Bool.or_false,Bool.not_true,Bool.not_false])),trivial⟩
    omega
   have q25:=of_decide_eq_false b25
   refine l_M (.int .u8 (((c22.toNat:Nat):Int))) (gY rfl b25) rfl (Aa (gY rfl b25) (Gl rfl rfl) (Aa (gY rfl rfl) (Bn rfl b25 (v:=(.bool (decide (((c22.toNat:Nat):Int) > 57)))) rfl) (l_v (Bt rfl rfl (v:=(.bool (decide (((c22.toNat:Nat):Int) > 57)))) rfl) (Asf (.bool (decide (((c22.toNat:Nat):Int) > 57))) (Cn (decide (((c22.toNat:Nat):Int) > 57)) (fun b28=>?_) (fun b28=>?_))))))
   ·have q28:=of_decide_eq_true b28
    refine l_M (.int .u8 (((c22.toNat:Nat):Int))) (gY rfl b28) rfl (Aa (gY rfl b28) (Dg rfl rfl) (l_v (Bt rfl b28 (v:=(.bool (((c22.toNat:Nat):Int) != 45))) rfl) (l_k k23 (Asg (t:=((c22.toNat:Nat):Int) != 45) rfl (fun b29=>?_) (fun b29=>?_)))))
    ·have q29:=Ls b29
     refine w_q rfl rfl fun K30 k30=>Lo (.bool (false)) (l_k k30 (Aq (hret _ _ _ ⟨rfl,rfl,eT (.bool (false)) ?_⟩)))
     have hbad:Alm s i = false:=by simp only [Alm,hc22,Ov,b4,b7,b9,b12,b19,b24,b25,b28,b29,Bool.true_and,Bool.false_and,Bool.and_true,Bool.and_false,Bool.true_or,Bool.false_or,Bool.or_true,Bool.or_false,Bool.not_true,Bool.not_false]
     have hall:=Awa (by omega) hbad
     simp only [Hg,hall,b4,b7,b9,b12,b19,b24,b25,b28,b29,Bool.true_and,Bool.false_and,Bool.and_true,Bool.and_false,Bool.true_or,Bool.false_or,Bool.or_true,Bool.or_false,Bool.not_true,Bool.not_false]
    have q29:=Jh b29
    refine Al (k20 _ _ _ _ ?_)
    refine Ag rfl rfl (l_v (Ah (v:=(iV ((i:Int)))) h16_3) (l_v (Br rfl rfl (z:=(((i + 1):Nat):Int)) wrE) (Lo (iV ((((i + 1):Nat):Int))) (Ac ?_))))
    refine ⟨_,?_,((i + 1)),rfl,rfl,rfl,rfl,h16_0,rfl,(by omega),(Eg p16_1 (by simp only [Alm,hc22,Ov,b4,b7,b9,b12,b19,b24,b25,b28,b29,Bool.true_and,Bool.false_and,Bool.and_true,Bool.and_false,Bool.true_or,Bool.false_or,Bool.or_true,Bool.or_false,Bool.not_true,Bool.not_false])),trivial⟩
    omega
   have q28:=of_decide_eq_false b28
   refine Ap (gN rfl b28) (Ap (gN rfl b28) (l_v (Bn rfl b28 (v:=(.bool (false))) rfl) (l_k k23 (Cg rfl rfl (Al (k20 _ _ _ _ ?_))))))
   refine Ag rfl rfl (l_v (Ah (v:=(iV ((i:Int)))) h16_3) (l_v (Br rfl rfl (z:=(((i + 1):Nat):Int)) wrE) (Lo (iV ((((i + 1):Nat):Int))) (Ac ?_))))
   refine ⟨_,?_,((i + 1)),rfl,rfl,rfl,rfl,h16_0,rfl,(by omega),(Eg p16_1 (by simp only [Alm,hc22,Ov,b4,b7,b9,b12,b19,b24,b25,b28,Bool.true_and,Bool.false_and,Bool.and_true,Bool.and_false,Bool.true_or,Bool.false_or,Bool.or_true,Bool.or_false,Bool.not_true,Bool.not_false])),trivial⟩
   omega
  have q24:=of_decide_eq_false b24
  refine l_M (.int .u8 (((c22.toNat:Nat):Int))) (gY rfl b24) rfl (Aa (gY rfl b24) (Gl rfl rfl) (l_v (Bn rfl b24 (v:=(.bool (decide (((c22.toNat:Nat):Int) > 122)))) rfl) (Asf (.bool (decide (((c22.toNat:Nat):Int) > 122))) (Cn (decide (((c22.toNat:Nat):Int) > 122)) (fun b31=>?_) (fun b31=>?_)))))
  ·have q31:=of_decide_eq_true b31
   refine l_M (.int .u8 (((c22.toNat:Nat):Int))) (gY rfl b31) rfl (Aa (gY rfl b31) (Da rfl rfl) (l_M (.bool (decide (((c22.toNat:Nat):Int) < 48))) (gY rfl b31) rfl (Cn (decide (((c22.toNat:Nat):Int) < 48)) (fun b32=>?_) (fun b32=>?_))))
   ·have q32:=of_decide_eq_true b32
    refine Ap (gN rfl b32) (Ap (gN rfl b32) (Aa (gY rfl b31) (Bt rfl b32 (v:=(.bool (true))) rfl) (l_v (Bt rfl b31 (v:=(.bool (true))) rfl) (Asf (.bool (true)) (l_M (.int .u8 (((c22.toNat:Nat):Int))) (gY rfl rfl) rfl (Aa (gY rfl rfl) (Dg rfl rfl) (l_v (Bt rfl rfl (v:=(.bool (((c22.toNat:Nat):Int) != 45))) rfl) (l_k k23 (Asg (t:=((c22.toNat:Nat):Int) != 45) rfl (fun b33=>?_) (fun b33=>?_))))))))))
    ·have q33:=Ls b33
     refine w_q rfl rfl fun K34 k34=>Lo (.bool (false)) (l_k k34 (Aq (hret _ _ _ ⟨rfl,rfl,eT (.bool (false)) ?_⟩)))
     have hbad:Alm s i = false:=by simp only [Alm,hc22,Ov,b4,b7,b9,b12,b19,b24,b31,b32,b33,Bool.true_and,Bool.false_and,Bool.and_true,Bool.and_false,Bool.true_or,Bool.false_or,Bool.or_true,Bool.or_false,Bool.not_true,Bool.not_false]
     have hall:=Awa (by omega) hbad
     simp only [Hg,hall,b4,b7,b9,b12,b19,b24,b31,b32,b33,Bool.true_and,Bool.false_and,Bool.and_true,Bool.and_false,Bool.true_or,Bool.false_or,Bool.or_true,Bool.or_false,Bool.not_true,Bool.not_false]
    have q33:=Jh b33
    refine Al (k20 _ _ _ _ ?_)
    refine Ag rfl rfl (l_v (Ah (v:=(iV ((i:Int)))) h16_3) (l_v (Br rfl rfl (z:=(((i + 1):Nat):Int)) wrE) (Lo (iV ((((i + 1):Nat):Int))) (Ac ?_))))
    refine ⟨_,?_,((i + 1)),rfl,rfl,rfl,rfl,h16_0,rfl,(by omega),(Eg p16_1 (by simp only [Alm,hc22,Ov,b4,b7,b9,b12,b19,b24,b31,b32,b33,Bool.true_and,Bool.false_and,Bool.and_true,Bool.and_false,Bool.true_or,Bool.false_or,Bool.or_true,Bool.or_false,Bool.not_true,Bool.not_false])),trivial⟩
    omega
   have q32:=of_decide_eq_false b32
   refine l_M (.int .u8 (((c22.toNat:Nat):Int))) (gY rfl b32) rfl (Aa (gY rfl b32) (Gl rfl rfl) (Aa (gY rfl b31) (Bn rfl b32 (v:=(.bool (decide (((c22.toNat:Nat):Int) > 57)))) rfl) (l_v (Bt rfl b31 (v:=(.bool (decide (((c22.toNat:Nat):Int) > 57)))) rfl) (Asf (.bool (decide (((c22.toNat:Nat):Int) > 57))) (Cn (decide (((c22.toNat:Nat):Int) > 57)) (fun b35=>?_) (fun b35=>?_))))))
   ·have q35:=of_decide_eq_true b35
    refine l_M (.int .u8 (((c22.toNat:Nat):Int))) (gY rfl b35) rfl (Aa (gY rfl b35) (Dg rfl rfl) (l_v (Bt rfl b35 (v:=(.bool (((c22.toNat:Nat):Int) != 45))) rfl) (l_k k23 (Asg (t:=((c22.toNat:Nat):Int) != 45) rfl (fun b36=>?_) (fun b36=>?_)))))
    ·have q36:=Ls b36
     refine w_q rfl rfl fun K37 k37=>Lo (.bool (false)) (l_k k37 (Aq (hret _ _ _ ⟨rfl,rfl,eT (.bool (false)) ?_⟩)))
     have hbad:Alm s i = false:=by simp only [Alm,hc22,Ov,b4,b7,b9,b12,b19,b24,b31,b32,b35,b36,Bool.true_and,Bool.false_and,Bool.and_true,Bool.and_false,Bool.true_or,Bool.false_or,Bool.or_true,Bool.or_false,Bool.not_true,Bool.not_false]
     have hall:=Awa (by omega) hbad
     simp only [Hg,hall,b4,b7,b9,b12,b19,b24,b31,b32,b35,b36,Bool.true_and,Bool.false_and,Bool.and_true,Bool.and_false,Bool.true_or,Bool.false_or,Bool.or_true,Bool.or_false,Bool.not_true,Bool.not_false]
    have q36:=Jh b36
    refine Al (k20 _ _ _ _ ?_)
    refine Ag rfl rfl (l_v (Ah (v:=(iV ((i:Int)))) h16_3) (l_v (Br rfl rfl (z:=(((i + 1):Nat):Int)) wrE) (Lo (iV ((((i + 1):Nat):Int))) (Ac ?_))))
    refine ⟨_,?_,((i + 1)),rfl,rfl,rfl,rfl,h16_0,rfl,(by omega),(Eg p16_1 (by simp only [Alm,hc22,Ov,b4,b7,b9,b12,b19,b24,b31,b32,b35,b36,Bool.true_and,Bool.false_and,Bool.and_true,Bool.and_false,Bool.true_or,Bool.false_or,Bool.or_true,Bool.or_false,Bool.not_true,Bool.not_false])),trivial⟩
    omega
   have q35:=of_decide_eq_false b35
   refine Ap (gN rfl b35) (Ap (gN rfl b35) (l_v (Bn rfl b35 (v:=(.bool (false))) rfl) (l_k k23 (Cg rfl rfl (Al (k20 _ _ _ _ ?_))))))
   refine Ag rfl rfl (l_v (Ah (v:=(iV ((i:Int)))) h16_3) (l_v (Br rfl rfl (z:=(((i + 1):Nat):Int)) wrE) (Lo (iV ((((i + 1):Nat):Int))) (Ac ?_))))
   refine ⟨_,?_,((i + 1)),rfl,rfl,rfl,rfl,h16_0,rfl,(by omega),(Eg p16_1 (by simp only [Alm,hc22,Ov,b4,b7,b9,b12,b19,b24,b31,b32,b35,Bool.true_and,Bool.false_and,Bool.and_true,Bool.and_false,Bool.true_or,Bool.false_or,Bool.or_true,Bool.or_false,Bool.not_true,Bool.not_false])),trivial⟩
   omega
  have q31:=of_decide_eq_false b31
  refine Ap (gN rfl b31) (Ap (gN rfl b31) (Ap (gN rfl b31) (Ap (Jf rfl rfl rfl) (Ap (Jf rfl rfl rfl) (Ap (gN rfl b31) (l_v (Bn rfl b31 (v:=(.bool (false))) rfl) (Asf (.bool (false)) (Ap (gN rfl rfl) (Ap (gN rfl rfl) (l_v (Bn rfl rfl (v:=(.bool (false))) rfl) (l_k k23 (Cg rfl rfl (Al (k20 _ _ _ _ ?_))))))))))))))
  refine Ag rfl rfl (l_v (Ah (v:=(iV ((i:Int)))) h16_3) (l_v (Br rfl rfl (z:=(((i + 1):Nat):Int)) wrE) (Lo (iV ((((i + 1):Nat):Int))) (Ac ?_))))
  refine ⟨_,?_,((i + 1)),rfl,rfl,rfl,rfl,h16_0,rfl,(by omega),(Eg p16_1 (by simp only [Alm,hc22,Ov,b4,b7,b9,b12,b19,b24,b31,Bool.true_and,Bool.false_and,Bool.and_true,Bool.and_false,Bool.true_or,Bool.false_or,Bool.or_true,Bool.or_false,Bool.not_true,Bool.not_false])),trivial⟩
  omega
 have q19:=of_decide_eq_false b19
 refine Bx (k14 _ _ _ _ ?_)
 refine w_q rfl rfl fun K38 k38=>Lo (.bool (true)) (l_k k38 (Aq (hret _ _ _ ⟨rfl,rfl,eT (.bool (true)) ?_⟩)))
 have hall:=Bat.2 fun j hj=>p16_1 j (by omega)
 simp only [Hg,Qb,hall,hc8,b4,b7,b9,b12,b19,Bool.true_and,Bool.false_and,Bool.and_true,Bool.and_false,Bool.true_or,Bool.false_or,Bool.or_true,Bool.or_false,Bool.not_true,Bool.not_false]
theorem Bcc {l:List ByteArray} {vl:Value} {s:ByteArray} (rl:Val ρ vl l):CallsH (CX mn X) 33 #[vl,(.string (s))] ρ σ (rP ρ σ (iV (Aht l s))):=by
 refine Bh (n:=19) (args:=[vl,(.string (s))]) [4] Tryd.func33 rfl rfl rfl rfl fun Q hret hnor=>w_q rfl rfl fun K1 k1=>Lo (iV (0)) (Ary rfl rfl k1 fun K2 K3 k2 k3=>Lo (iV (0)) (l_k k3 (Ao (Cc (fun mm ee dd ρ' σ'=>∃ (i:Nat),(l.length - i) = mm∧[] = dd∧ρ = ρ'∧σ = σ'∧ee 0 = vl∧ee 1 = (.string (s))∧ee 5 = (iV ((i:Int)))∧(i ≤ l.length)∧(∀ j,j < i→Xi l s j = false)∧True) (m:=_) ⟨0,rfl,rfl,rfl,rfl,rfl,rfl,rfl,(Nat.zero_le _),(fun j h=>absurd h (Nat.not_lt_zero _)),trivial⟩ ?_))))
 rintro m4 e4 _ _ _ ⟨i,rfl,rfl,rfl,rfl,h4_0,h4_1,h4_5,p4_0,p4_1,_⟩
 refine Asb rfl rfl fun K5 K6 k5 k6=>l_v (Ah (v:=(iV ((i:Int)))) h4_5) (l_v (Ah (v:=vl) h4_0) ?_)
 have g7:=Bmn rl
 refine l_v (Ci (el:=9) Bic rfl rl) (l_v (Da rfl rfl) (l_k k6 (Asg (t:=decide ((i:Int) < ((l.length:Nat):Int))) rfl (fun b8=>?_) (fun b8=>?_))))
 ·have q8:=of_decide_eq_true b8
  refine Al (k5 _ _ _ _ ?_)
  refine Ai fun K9 k9=>Ao (w_q rfl rfl fun K10 k10=>l_v (Ah (v:=vl) h4_0) (l_v (Ah (v:=(iV ((i:Int)))) h4_5) ?_))
  obtain ⟨a12,ha12⟩:=Ed (xs:=l) (i:=i) (by omega)
  refine Arw (Ch i Bic ty9 rfl rl (q:=(i:Int)) rfl rfl ha12) fun v11 r11=>?_
  have g13:=At.slen r11
  refine l_v (Pk ty9 rfl r11) (l_v (Ah (v:=(.string (s))) h4_1) (l_v (Bav (p:=a12) (q:=s) rfl rfl) (l_k k10 (Asg (t:=(a12).toList == (s).toList) rfl (fun b14=>?_) (fun b14=>?_)))))
  ·have q14:=Jr b14
   refine w_q rfl rfl fun K15 k15=>l_v (Ah (v:=(iV ((i:Int)))) h4_5) (Lo (iV ((i:Int))) (l_k k15 (Aq (hret _ _ _ ⟨rfl,rfl,eT (iV ((i:Int))) ?_⟩))))
   have hi:=Fh (n:=l.length) p4_1 (by omega) (show Xi l s i = true by simp only [Xi,ha12,b8,b14])
   simp only [Aht,hi]
  have q14:=Jq b14
  refine Al (k9 _ _ _ _ ?_)
  refine Ag rfl rfl (l_v (Ah (v:=(iV ((i:Int)))) h4_5) (l_v (Br rfl rfl (z:=(((i + 1):Nat):Int)) wrE) (Lo (iV ((((i + 1):Nat):Int))) (Ac ?_))))
  refine ⟨_,?_,((i + 1)),rfl,rfl,rfl,rfl,h4_0,h4_1,rfl,(by omega),(Eg p4_1 (by simp only [Xi,ha12,b8,b14])),trivial⟩
  omega
 have q8:=of_decide_eq_false b8
 refine Bx (k2 _ _ _ _ ?_)
 refine w_q rfl rfl fun K16 k16=>Lo (iV ((-1))) (l_k k16 (Aq (hret _ _ _ ⟨rfl,rfl,eT (iV ((-1))) ?_⟩)))
 have hn:=Ep (n:=l.length) fun j hj=>p4_1 j (by omega)
 simp only [Aht,hn]
theorem Bar {l:List ByteArray} {vl:Value} {most:Int} (rl:Val ρ vl l):CallsH (CX mn X) 63 #[vl,(iV (most))] ρ σ (rP ρ σ (iV (Dd l most))):=by
 refine Bh (n:=31) (args:=[vl,(iV (most))]) [4] Tryd.func63 rfl rfl rfl rfl fun Q hret hnor=>w_q rfl rfl fun K1 k1=>Lo (iV (0)) (Ary rfl rfl k1 fun K2 K3 k2 k3=>Asf vl ?_)
 have g4:=Bmn rl
 refine l_v (Ci (el:=9) Bic rfl rl) (Asf (iV (most)) (l_v (Gl rfl rfl) (l_k k3 (Asg (t:=decide (((l.length:Nat):Int) > most)) rfl (fun b5=>?_) (fun b5=>?_)))))
 ·have q5:=of_decide_eq_true b5
  refine w_q rfl rfl fun K6 k6=>Lo (iV (2)) (l_k k6 (Aq (hret _ _ _ ⟨rfl,rfl,eT (iV (2)) ?_⟩)))
  rw [Dd,if_pos (by omega)]
 have q5:=of_decide_eq_false b5
 refine Al (k2 _ _ _ _ ?_)
 refine Asb rfl rfl fun K7 K8 k7 k8=>Lo (iV (0)) (l_k k8 (Ao (Cc (fun mm ee dd ρ' σ'=>∃ (i:Nat),(l.length - i) = mm∧[] = dd∧ρ = ρ'∧σ = σ'∧ee 0 = vl∧ee 5 = (iV ((i:Int)))∧(i ≤ l.length)∧(∀ j,j < i→Nh l j = 0)∧True) (m:=_) ⟨0,rfl,rfl,rfl,rfl,rfl,rfl,(Nat.zero_le _),(fun j h=>absurd h (Nat.not_lt_zero _)),trivial⟩ ?_)))
 rintro m9 e9 _ _ _ ⟨i,rfl,rfl,rfl,rfl,h9_0,h9_5,p9_0,p9_1,_⟩
 refine Asb rfl rfl fun K10 K11 k10 k11=>l_v (Ah (v:=(iV ((i:Int)))) h9_5) (l_v (Ah (v:=vl) h9_0) ?_)
 have g12:=Bmn rl
 refine l_v (Ci (el:=9) Bic rfl rl) (l_v (Da rfl rfl) (l_k k11 (Asg (t:=decide ((i:Int) < ((l.length:Nat):Int))) rfl (fun b13=>?_) (fun b13=>?_))))
 ·have q13:=of_decide_eq_true b13
  refine Al (k10 _ _ _ _ ?_)
  refine Ai fun K14 k14=>Ao (Asb rfl rfl fun K15 K16 k15 k16=>l_v (Ah (v:=vl) h9_0) (l_v (Ah (v:=(iV ((i:Int)))) h9_5) ?_))
  obtain ⟨a18,ha18⟩:=Ed (xs:=l) (i:=i) (by omega)
  refine Arw (Ch i Bic ty9 rfl rl (q:=(i:Int)) rfl rfl ha18) fun v17 r17=>?_
  have g19:=At.slen r17
  refine l_v (Pk ty9 rfl r17) (Arv (Bm (Awf) Bla rfl rfl ⟨rfl,trivial⟩ ?_))
  refine l_v (Iy rfl) (l_k k16 (Asg (t:=!(Hg a18)) rfl (fun b20=>?_) (fun b20=>?_)))
  ·have b21:=not_eq_t b20
   refine w_q rfl rfl fun K22 k22=>Lo (iV (4)) (l_k k22 (Aq (hret _ _ _ ⟨rfl,rfl,eT (iV (4)) ?_⟩)))
   have hf:Nh l i = 4:=by simp only [Nh,ha18,b5,b13,b20,b21]; first | rfl | omega | (simp; done) | (simp; omega)
   rw [Dd,if_neg (by omega),Db p9_1 (by omega) hf (by omega)]
  have b23:=not_eq_f b20
  refine Al (k15 _ _ _ _ ?_)
  refine Ai fun K24 k24=>Atd (Ash 0 Aqn rfl (Ah (v:=vl) h9_0) (Ash 1 Aqo rfl (Ah (v:=(iV ((i:Int)))) h9_5) (Asj 2 Aqp rfl (Awv i Bic ty9 rfl rl (q:=(i:Int)) rfl rfl (by omega)) fun v25 r25=>Ash 3 Aqq rfl (Ah (v:=vl) h9_0) (Asi 4 Aqr rfl (Ah (v:=(iV ((i:Int)))) h9_5) (Asn 5 Aqs rfl (Ch i Bic ty9 rfl rl (q:=(i:Int)) rfl rfl ha18) fun v26 r26=>?_)))))
  have g27:=At.slen r26
  refine Asi 6 Aqt rfl (Pk ty9 rfl r26) (Asm 7 Aqu rfl (Bm (Bcc r25) Tryd.func33 rfl rfl ⟨rfl,rfl,trivial⟩ ⟨Bml,?_⟩))
  refine Asi 8 Aqv rfl (Uy rfl rfl) (Ec rfl (k24 _ _ _ _ ?_))
  refine Asg (t:=decide (Aht ((l.take i)) a18 ≥ 0)) rfl (fun b28=>?_) (fun b28=>?_)
  ·have q28:=of_decide_eq_true b28
   refine w_q rfl rfl fun K29 k29=>Lo (iV (5)) (l_k k29 (Aq (hret _ _ _ ⟨rfl,rfl,eT (iV (5)) ?_⟩)))
   have hf:Nh l i = 5:=by simp only [Nh,ha18,b5,b13,b20,b23,b28]; first | rfl | omega | (simp; done) | (simp; omega)
   rw [Dd,if_neg (by omega),Db p9_1 (by omega) hf (by omega)]
  have q28:=of_decide_eq_false b28
  refine Al (k14 _ _ _ _ ?_)
  refine Ag rfl rfl (l_v (Ah (v:=(iV ((i:Int)))) h9_5) (l_v (Br rfl rfl (z:=(((i + 1):Nat):Int)) wrE) (Lo (iV ((((i + 1):Nat):Int))) (Ac ?_))))
  refine ⟨_,?_,((i + 1)),rfl,rfl,rfl,rfl,h9_0,rfl,(by omega),(Eg p9_1 (by simp only [Nh,ha18,b5,b13,b20,b23,b28]; first | rfl | omega | (simp; done) | (simp; omega))),trivial⟩
  omega
 have q13:=of_decide_eq_false b13
 refine Bx (k7 _ _ _ _ ?_)
 refine w_q rfl rfl fun K30 k30=>Lo (iV (0)) (l_k k30 (Aq (hret _ _ _ ⟨rfl,rfl,eT (iV (0)) ?_⟩)))
 rw [Dd,if_neg (by omega),Fb fun j hj=>p9_1 j (by omega)]
end
section
set_option maxHeartbeats 1000000
open Go
variable {mn:Bool} {X:Frame→List Frame→Ro→Own→Cy→Prop} {ρ:Ro} {σ:Own}
theorem Axw {l:List Span} {vl:Value} {many:Int} (rl:Val ρ vl l):CallsH (CX mn X) 64 #[vl,(iV (many))] ρ σ (rP ρ σ (iV (Fm l many))):=by
 refine Bh (n:=22) (args:=[vl,(iV (many))]) [4] Tryd.func64 rfl rfl rfl rfl fun Q hret hnor=>w_q rfl rfl fun K1 k1=>Lo (iV (0)) (Ary rfl rfl k1 fun K2 K3 k2 k3=>Asf vl ?_)
 have g4:=Bmn rl
 refine l_v (Ci (el:=27) Bis rfl rl) (Asf (iV (many)) (l_v (Dg rfl rfl) (l_k k3 (Asg (t:=((l.length:Nat):Int) != many) rfl (fun b5=>?_) (fun b5=>?_)))))
 ·have q5:=Ls b5
  refine w_q rfl rfl fun K6 k6=>Lo (iV (2)) (l_k k6 (Aq (hret _ _ _ ⟨rfl,rfl,eT (iV (2)) ?_⟩)))
  rw [Fm,if_neg (by omega)]
 have q5:=Jh b5
 refine Al (k2 _ _ _ _ ?_)
 refine Asb rfl rfl fun K7 K8 k7 k8=>Lo (iV (0)) (l_k k8 (Ao (Cc (fun mm ee dd ρ' σ'=>∃ (i:Nat),(l.length - i) = mm∧[] = dd∧ρ = ρ'∧σ = σ'∧ee 0 = vl∧ee 5 = (iV ((i:Int)))∧(i ≤ l.length)∧(∀ j,j < i→Nn l j = 0)∧True) (m:=_) ⟨0,rfl,rfl,rfl,rfl,rfl,rfl,(Nat.zero_le _),(fun j h=>absurd h (Nat.not_lt_zero _)),trivial⟩ ?_)))
 rintro m9 e9 _ _ _ ⟨i,rfl,rfl,rfl,rfl,h9_0,h9_5,p9_0,p9_1,_⟩
 refine Asb rfl rfl fun K10 K11 k10 k11=>l_v (Ah (v:=(iV ((i:Int)))) h9_5) (l_v (Ah (v:=vl) h9_0) ?_)
 have g12:=Bmn rl
 refine l_v (Ci (el:=27) Bis rfl rl) (l_v (Da rfl rfl) (l_k k11 (Asg (t:=decide ((i:Int) < ((l.length:Nat):Int))) rfl (fun b13=>?_) (fun b13=>?_))))
 ·have q13:=of_decide_eq_true b13
  refine Al (k10 _ _ _ _ ?_)
  refine Ai fun K14 k14=>Ao (w_q rfl rfl fun K15 k15=>l_v (Ah (v:=vl) h9_0) (l_v (Ah (v:=(iV ((i:Int)))) h9_5) ?_))
  obtain ⟨a17,ha17⟩:=Ed (xs:=l) (i:=i) (by omega)
  refine Arw (Ch i Bis Mx rfl rl (q:=(i:Int)) rfl rfl ha17) fun v16 r16=>Arw (Ax Mx rfl r16) fun v18 r18=>Arv (Bm (Avf r18) Bli rfl rfl ⟨rfl,rfl,rfl,trivial⟩ ?_)
  refine l_v (Iy rfl) (l_k k15 (Asg (t:=!(Ef a17 0 1000)) rfl (fun b19=>?_) (fun b19=>?_)))
  ·have b20:=not_eq_t b19
   refine w_q rfl rfl fun K21 k21=>Lo (iV (1)) (l_k k21 (Aq (hret _ _ _ ⟨rfl,rfl,eT (iV (1)) ?_⟩)))
   have hf:Nn l i = 1:=by simp [Nn,ha17,b5,b13,b19,b20,q5,q13]
   rw [Fm,if_pos (by omega),Db p9_1 (by omega) hf (by omega)]
  have b22:=not_eq_f b19
  refine Al (k14 _ _ _ _ ?_)
  refine Ag rfl rfl (l_v (Ah (v:=(iV ((i:Int)))) h9_5) (l_v (Br rfl rfl (z:=(((i + 1):Nat):Int)) wrE) (Lo (iV ((((i + 1):Nat):Int))) (Ac ?_))))
  refine ⟨_,?_,((i + 1)),rfl,rfl,rfl,rfl,h9_0,rfl,(by omega),(Eg p9_1 (by simp [Nn,ha17,b5,b13,b19,b22,q5,q13])),trivial⟩
  omega
 have q13:=of_decide_eq_false b13
 refine Bx (k7 _ _ _ _ ?_)
 refine w_q rfl rfl fun K23 k23=>Lo (iV (0)) (l_k k23 (Aq (hret _ _ _ ⟨rfl,rfl,eT (iV (0)) ?_⟩)))
 rw [Fm,if_pos (by omega),Fb fun j hj=>p9_1 j (by omega)]
theorem Awz {m:Market} {vm:Value} (rm:Val ρ vm m):CallsH (CX mn X) 30 #[vm] ρ σ (rP ρ σ (iV (Cf m))):=by
 refine Bh (n:=137) (args:=[vm]) [2] Tryd.func30 rfl rfl rfl rfl fun Q hret hnor=>w_q rfl rfl fun K1 k1=>Arv (Eb (v:=vm) rfl fun k2=>?_)
 refine Bb (a:=m) rm fun ρ2 l2 r2=>Lo (iV (0)) (Ary rfl rfl k1 fun K3 K4 k3 k4=>Arw (Ay Market.f_houses Bia rfl rfl Hw (by decide) rfl r2) fun v5 r5=>Arw (Ax Hw rfl r5) fun v6 r6=>Arv (Bm (Bar r6) Tryd.func63 rfl rfl ⟨rfl,rfl,trivial⟩ ?_))
 refine Lo (iV (Dd m.houses 5)) (Arx rfl rfl k4 fun K7 k7=>Asf (iV (Dd m.houses 5)) (l_v (Dg rfl rfl) (l_k k7 (Asg (t:=Dd m.houses 5 != 0) rfl (fun b8=>?_) (fun b8=>?_)))))
 ·have q8:=Ls b8
  refine w_q rfl rfl fun K9 k9=>Asf (iV (Dd m.houses 5)) (Lo (iV (Dd m.houses 5)) (l_k k9 (Aj (Bmi l2) (Aq (hret _ _ _ ⟨rfl,rfl,eT (iV (Dd m.houses 5)) ?_⟩)))))
  rw [Cf,Ry q8]
 have q8:=Jh b8
 refine Al (k3 _ _ _ _ ?_)
 refine Asb rfl rfl fun K10 K11 k10 k11=>Arw (Ay Market.f_marks Bia rfl rfl Hw (by decide) rfl r2) fun v12 r12=>Arw (Ax Hw rfl r12) fun v13 r13=>Arv (Bm (Bar r13) Tryd.func63 rfl rfl ⟨rfl,rfl,trivial⟩ ?_)
 refine Lo (iV (Dd m.marks 4)) (Arx rfl rfl k11 fun K14 k14=>Asf (iV (Dd m.marks 4)) (l_v (Dg rfl rfl) (l_k k14 (Asg (t:=Dd m.marks 4 != 0) rfl (fun b15=>?_) (fun b15=>?_)))))
 ·have q15:=Ls b15
  refine w_q rfl rfl fun K16 k16=>Asf (iV (Dd m.marks 4)) (Lo (iV (Dd m.marks 4)) (l_k k16 (Aj (Bmi l2) (Aq (hret _ _ _ ⟨rfl,rfl,eT (iV (Dd m.marks 4)) ?_⟩)))))
  rw [Cf,Gr q8,Ry q15]
 have q15:=Jh b15
 refine Al (k10 _ _ _ _ ?_)
 refine Asb rfl rfl fun K17 K18 k17 k18=>Arw (Ay Market.f_fields Bia rfl rfl Se (by decide) rfl r2) fun v19 r19=>Arw (Ax Se rfl r19) fun v20 r20=>?_
 have g21:=Bmn r20
 refine l_v (Ci (el:=43) Big rfl r20) (l_v (Gl rfl rfl) (l_k k18 (Asg (t:=decide (((m.fields.length:Nat):Int) > 6)) rfl (fun b22=>?_) (fun b22=>?_))))
 ·have q22:=of_decide_eq_true b22
  refine w_q rfl rfl fun K23 k23=>Lo (iV (2)) (l_k k23 (Aj (Bmi l2) (Aq (hret _ _ _ ⟨rfl,rfl,eT (iV (2)) ?_⟩))))
  rw [Cf,Gr q8,Gr q15,Ew,if_pos q22,Ry (by omega)]
 have q22:=of_decide_eq_false b22
 refine Al (k17 _ _ _ _ ?_)
 refine Asb rfl rfl fun K24 K25 k24 k25=>Lo (iV (0)) (l_k k25 (Ao (Cc (fun mm ee dd ρ' σ'=>∃ (i:Nat),(m.fields.length - i) = mm∧[] = dd∧ρ2 = ρ'∧σ = σ'∧ee 1 = (.pointer (some ⟨k2,0,none⟩))∧ee 5 = (iV ((i:Int)))∧(i ≤ m.fields.length)∧(∀ j,j < i→fieldAt m j = 0)∧True) (m:=_) ⟨0,rfl,rfl,rfl,rfl,rfl,rfl,(Nat.zero_le _),(fun j h=>absurd h (Nat.not_lt_zero _)),trivial⟩ ?_)))
 rintro m26 e26 _ _ _ ⟨i,rfl,rfl,rfl,rfl,h26_1,h26_5,p26_0,p26_1,_⟩
 refine Asb rfl rfl fun K27 K28 k27 k28=>l_v (Ah (v:=(iV ((i:Int)))) h26_5) (Arw (Ay Market.f_fields Bia rfl rfl Se (by decide) h26_1 r2) fun v29 r29=>Arw (Ax Se rfl r29) fun v30 r30=>?_)
 have g31:=Bmn r30
 refine l_v (Ci (el:=43) Big rfl r30) (l_v (Da rfl rfl) (l_k k28 (Asg (t:=decide ((i:Int) < ((m.fields.length:Nat):Int))) rfl (fun b32=>?_) (fun b32=>?_))))
 ·have q32:=of_decide_eq_true b32
  refine Al (k27 _ _ _ _ ?_)
  refine Ai fun K33 k33=>Ao (w_q rfl rfl fun K34 k34=>Arw (Ay Market.f_fields Bia rfl rfl Se (by decide) h26_1 r2) fun v35 r35=>Arw (Ax Se rfl r35) fun v36 r36=>l_v (Ah (v:=(iV ((i:Int)))) h26_5) ?_)
  obtain ⟨a38,ha38⟩:=Ed (xs:=m.fields) (i:=i) (by omega)
  refine Arw (Ch i Big ty67 rfl r36 (q:=(i:Int)) rfl rfl ha38) fun v37 r37=>Arw (Ax ty67 rfl r37) fun v39 r39=>Arv (Ct Xu fun k40=>?_)
  refine Cx rfl (Dv (v:=v39) (a:=a38) (c:=Aah) ty67 rfl rfl r39 rfl ?_)
  refine Bb (a:=a38) r39 fun ρ41 l41 r41=>?_
  replace r2:=Bmg l41 r2
  refine Ary rfl rfl k34 fun K42 K43 k42 k43=>Arw (Ay FField.f_name Bij rfl rfl ty9 (by decide) rfl r41) fun v44 r44=>?_
  have g45:=At.slen r44
  refine l_v (Pk ty9 rfl r44) (Arv (Bm (Awf) Bla rfl rfl ⟨rfl,trivial⟩ ?_))
  refine l_v (Iy rfl) (l_k k43 (Asg (t:=!(Hg a38.name)) rfl (fun b46=>?_) (fun b46=>?_)))
  ·have b47:=not_eq_t b46
   refine w_q rfl rfl fun K48 k48=>Lo (iV (4)) (l_k k48 (Aj (Bmi (Bmm l2 l41)) (Aq (hret _ _ _ ⟨rfl,rfl,eT (iV (4)) ?_⟩))))
   have hf:fieldAt m i = 4:=by simp [fieldAt,ha38,b8,b15,b22,b32,b46,b47,q8,q15,q22,q32]
   have hF:Ew m = 4:=by rw [Ew,if_neg (by omega),Db p26_1 (by omega) hf (by omega)]
   rw [Cf,Gr q8,Gr q15,hF,Ry (by omega)]
  have b49:=not_eq_f b46
  refine Al (k42 _ _ _ _ ?_)
  refine Asb rfl rfl fun K50 K51 k50 k51=>Lo (iV (0)) (l_k k51 (Ao (Cc (fun mm ee dd ρ' σ'=>∃ (k:Nat),(i - k) = mm∧[] = dd∧ρ41 = ρ'∧σ = σ'∧ee 1 = (.pointer (some ⟨k2,0,none⟩))∧ee 5 = (iV ((i:Int)))∧ee 6 = (.pointer (some ⟨k40,0,none⟩))∧ee 7 = (iV ((k:Int)))∧(k ≤ i)∧(∀ j,j < k→Mk m a38.name j = false)∧True) (m:=_) ⟨0,rfl,rfl,rfl,rfl,h26_1,h26_5,rfl,rfl,(Nat.zero_le _),(fun j h=>absurd h (Nat.not_lt_zero _)),trivial⟩ ?_)))
  rintro m52 e52 _ _ _ ⟨k,rfl,rfl,rfl,rfl,h52_1,h52_5,h52_6,h52_7,p52_0,p52_1,_⟩
  refine Asb rfl rfl fun K53 K54 k53 k54=>l_v (Ah (v:=(iV ((k:Int)))) h52_7) (l_v (Ah (v:=(iV ((i:Int)))) h52_5) (l_v (Da rfl rfl) (l_k k54 (Asg (t:=decide ((k:Int) < (i:Int))) rfl (fun b55=>?_) (fun b55=>?_)))))
  ·have q55:=of_decide_eq_true b55
   refine Al (k53 _ _ _ _ ?_)
   refine Ai fun K56 k56=>Ao (Ai fun K57 k57=>Atd (Asj 0 Aqn rfl (Ay Market.f_fields Bia rfl rfl Se (by decide) h52_1 r2) fun v58 r58=>Asj 1 Aqo rfl (Ax Se rfl r58) fun v59 r59=>Ash 2 Aqp rfl (Ah (v:=(iV ((k:Int)))) h52_7) ?_))
   obtain ⟨a61,ha61⟩:=Ed (xs:=m.fields) (i:=k) (by omega)
   refine Asj 3 Aqq rfl (Ch k Big ty67 rfl r59 (q:=(k:Int)) rfl rfl ha61) fun v60 r60=>Asj 4 Aqr rfl (Ay FField.f_name Bij rfl rfl ty9 (by decide) rfl r60) fun v62 r62=>?_
   have g63:=At.slen r62
   refine Ash 5 Aqs rfl (Pk ty9 rfl r62) (Asn 6 Aqt rfl (Ay FField.f_name Bij rfl rfl ty9 (by decide) h52_6 r41) fun v64 r64=>?_)
   have g65:=At.slen r64
   refine Asi 7 Aqu rfl (Pk ty9 rfl r64) (Asi 8 Aqv rfl (Bav (p:=a61.name) (q:=a38.name) rfl rfl) (Ec rfl (k57 _ _ _ _ ?_)))
   refine Asg (t:=(a61.name).toList == (a38.name).toList) rfl (fun b66=>?_) (fun b66=>?_)
   ·have q66:=Jr b66
    refine w_q rfl rfl fun K67 k67=>Lo (iV (5)) (l_k k67 (Aj (Bmi (Bmm l2 l41)) (Aq (hret _ _ _ ⟨rfl,rfl,eT (iV (5)) ?_⟩))))
    have hi:Cl i (Mk m a38.name) = some k:=Fh p52_1 (by omega) (by simp [Mk,ha61,b8,b15,b22,b32,b46,b49,b55,b66,q8,q15,q22,q32,q55,q66])
    have hf:fieldAt m i = 5:=by simp [fieldAt,ha38,hi,b8,b15,b22,b32,b46,b49,b55,b66,q8,q15,q22,q32,q55,q66]
    have hF:Ew m = 5:=by rw [Ew,if_neg (by omega),Db p26_1 (by omega) hf (by omega)]
    rw [Cf,Gr q8,Gr q15,hF,Ry (by omega)]
   have q66:=Jq b66
   refine Al (k56 _ _ _ _ ?_)
   refine Ag rfl rfl (l_v (Ah (v:=(iV ((k:Int)))) h52_7) (l_v (Br rfl rfl (z:=(((k + 1):Nat):Int)) wrE) (Lo (iV ((((k + 1):Nat):Int))) (Ac ?_))))
   refine ⟨_,?_,((k + 1)),rfl,rfl,rfl,rfl,h52_1,h52_5,h52_6,rfl,(by omega),(Eg p52_1 (by simp [Mk,ha61,b8,b15,b22,b32,b46,b49,b55,b66,q8,q15,q22,q32,q55,q66])),trivial⟩
   omega
  have q55:=of_decide_eq_false b55
  refine Bx (k50 _ _ _ _ ?_)
  refine Asb rfl rfl fun K68 K69 k68 k69=>Arw (Ay FField.f_house Bij rfl rfl ty3 (by decide) h52_6 r41) fun v70 r70=>?_
  have ⟨g71a,g71b⟩:=At.rng r70
  refine l_v (Bc ty3 rfl r70) (Arw (Ay Market.f_houses Bia rfl rfl Hw (by decide) h52_1 r2) fun v72 r72=>Arw (Ax Hw rfl r72) fun v73 r73=>?_)
  have g74:=Bmn r73
  refine l_v (Ci (el:=9) Bic rfl r73) (l_v (Ou rfl rfl (z:=(((m.houses.length:Nat):Int) - 1)) wrE) (Arv (Bm (Ave) Bjm rfl rfl ⟨rfl,rfl,rfl,trivial⟩ ?_)))
  refine l_v (Iy rfl) (l_k k69 (Asg (t:=!(inR a38.house 0 ((((m.houses.length:Nat):Int) - 1)))) rfl (fun b75=>?_) (fun b75=>?_)))
  ·have b76:=not_eq_t b75
   have q76:=Tr.1 b76
   refine w_q rfl rfl fun K77 k77=>Lo (iV (6)) (l_k k77 (Aj (Bmi (Bmm l2 l41)) (Aq (hret _ _ _ ⟨rfl,rfl,eT (iV (6)) ?_⟩))))
   have hi:Cl i (Mk m a38.name) = none:=Ep fun j hj=>p52_1 j (by omega)
   have hf:fieldAt m i = 6:=by simp [fieldAt,ha38,hi,b8,b15,b22,b32,b46,b49,b55,b75,b76,q8,q15,q22,q32,q55,q76]
   have hF:Ew m = 6:=by rw [Ew,if_neg (by omega),Db p26_1 (by omega) hf (by omega)]
   rw [Cf,Gr q8,Gr q15,hF,Ry (by omega)]
  have b78:=not_eq_f b75
  have q78:=Fz.1 b78
  refine Al (k68 _ _ _ _ ?_)
  refine Asb rfl rfl fun K79 K80 k79 k80=>Arw (Ay FField.f_grows Bij rfl rfl Mx (by decide) h52_6 r41) fun v81 r81=>Arw (Ax Mx rfl r81) fun v82 r82=>Arv (Bm (Avf r82) Bli rfl rfl ⟨rfl,rfl,rfl,trivial⟩ ?_)
  refine l_v (Iy rfl) (l_k k80 (Asg (t:=!(Ef a38.grows 0 1000000)) rfl (fun b83=>?_) (fun b83=>?_)))
  ·have b84:=not_eq_t b83
   refine w_q rfl rfl fun K85 k85=>Lo (iV (1)) (l_k k85 (Aj (Bmi (Bmm l2 l41)) (Aq (hret _ _ _ ⟨rfl,rfl,eT (iV (1)) ?_⟩))))
   have hi:Cl i (Mk m a38.name) = none:=Ep fun j hj=>p52_1 j (by omega)
   have hf:fieldAt m i = 1:=by simp [fieldAt,ha38,hi,b8,b15,b22,b32,b46,b49,b55,b75,b78,b83,b84,q8,q15,q22,q32,q55,q78]
   have hF:Ew m = 1:=by rw [Ew,if_neg (by omega),Db p26_1 (by omega) hf (by omega)]
   rw [Cf,Gr q8,Gr q15,hF,Ry (by omega)]
  have b86:=not_eq_f b83
  refine Al (k79 _ _ _ _ ?_)
  refine w_q rfl rfl fun K87 k87=>Arw (Ay FField.f_marks Bij rfl rfl Uo (by decide) h52_6 r41) fun v88 r88=>Arw (Ax Uo rfl r88) fun v89 r89=>Arw (Ay Market.f_marks Bia rfl rfl Hw (by decide) h52_1 r2) fun v90 r90=>Arw (Ax Hw rfl r90) fun v91 r91=>?_
  have g92:=Bmn r91
  refine l_v (Ci (el:=9) Bic rfl r91) (Arv (Bm (Axw r89) Tryd.func64 rfl rfl ⟨rfl,rfl,trivial⟩ ?_))
  refine Lo (iV (Fm a38.marks (((m.marks.length:Nat):Int)))) (Arx rfl rfl k87 fun K93 k93=>Asf (iV (Fm a38.marks (((m.marks.length:Nat):Int)))) (l_v (Dg rfl rfl) (l_k k93 (Asg (t:=Fm a38.marks (((m.marks.length:Nat):Int)) != 0) rfl (fun b94=>?_) (fun b94=>?_)))))
  ·have q94:=Ls b94
   refine w_q rfl rfl fun K95 k95=>Asf (iV (Fm a38.marks (((m.marks.length:Nat):Int)))) (Lo (iV (Fm a38.marks (((m.marks.length:Nat):Int)))) (l_k k95 (Aj (Bmi (Bmm l2 l41)) (Aq (hret _ _ _ ⟨rfl,rfl,eT (iV (Fm a38.marks (((m.marks.length:Nat):Int)))) ?_⟩)))))
   have hi:Cl i (Mk m a38.name) = none:=Ep fun j hj=>p52_1 j (by omega)
   have hf:fieldAt m i = Fm a38.marks (((m.marks.length:Nat):Int)):=by simp [fieldAt,ha38,hi,b8,b15,b22,b32,b46,b49,b55,b75,b78,b83,b86,b94,q8,q15,q22,q32,q55,q78,q94]
   have hF:Ew m = Fm a38.marks (((m.marks.length:Nat):Int)):=by rw [Ew,if_neg (by omega),Db p26_1 (by omega) hf q94]
   rw [Cf,Gr q8,Gr q15,hF,Ry q94]
  have q94:=Jh b94
  refine Al (k33 _ _ _ _ ?_)
  refine Ag rfl rfl (l_v (Ah (v:=(iV ((i:Int)))) h52_5) (l_v (Br rfl rfl (z:=(((i + 1):Nat):Int)) wrE) (Lo (iV ((((i + 1):Nat):Int))) (Bj (Bmi l41) (Ac ?_)))))
  refine ⟨_,?_,((i + 1)),rfl,rfl,rfl,rfl,h52_1,rfl,(by omega),(Eg p26_1 (by
  have hi:Cl i (Mk m a38.name) = none:=Ep fun j hj=>p52_1 j (by omega)
  simp [fieldAt,ha38,hi,b8,b15,b22,b32,b46,b49,b55,b75,b78,b83,b86,b94,q8,q15,q22,q32,q55,q78,q94])),trivial⟩
  omega
 have q32:=of_decide_eq_false b32
 refine Bx (k24 _ _ _ _ ?_)
 refine Asb rfl rfl fun K96 K97 k96 k97=>Arw (Ay Market.f_sales Bia rfl rfl Qn (by decide) h26_1 r2) fun v98 r98=>Arw (Ax Qn rfl r98) fun v99 r99=>?_
 have g100:=Bmn r99
 refine l_v (Ci (el:=51) Bif rfl r99) (l_v (Gl rfl rfl) (l_k k97 (Asg (t:=decide (((m.sales.length:Nat):Int) > 8)) rfl (fun b101=>?_) (fun b101=>?_))))
 ·have q101:=of_decide_eq_true b101
  refine w_q rfl rfl fun K102 k102=>Lo (iV (2)) (l_k k102 (Aj (Bmi l2) (Aq (hret _ _ _ ⟨rfl,rfl,eT (iV (2)) ?_⟩))))
  have hF:Ew m = 0:=by rw [Ew,if_neg (by omega),Fb fun j hj=>p26_1 j (by omega)]
  rw [Cf,Gr q8,Gr q15,Gr hF,Jc,if_pos (by omega)]
 have q101:=of_decide_eq_false b101
 refine Al (k96 _ _ _ _ ?_)
 refine Asb rfl rfl fun K103 K104 k103 k104=>Lo (iV (0)) (l_k k104 (Ao (Cc (fun mm ee dd ρ' σ'=>∃ (s:Nat),(m.sales.length - s) = mm∧[] = dd∧ρ2 = ρ'∧σ = σ'∧ee 1 = (.pointer (some ⟨k2,0,none⟩))∧ee 9 = (iV ((s:Int)))∧(s ≤ m.sales.length)∧(∀ j,j < s→Jb m j = 0)∧True) (m:=_) ⟨0,rfl,rfl,rfl,rfl,h26_1,rfl,(Nat.zero_le _),(fun j h=>absurd h (Nat.not_lt_zero _)),trivial⟩ ?_)))
 rintro m105 e105 _ _ _ ⟨s,rfl,rfl,rfl,rfl,h105_1,h105_9,p105_0,p105_1,_⟩
 refine Asb rfl rfl fun K106 K107 k106 k107=>l_v (Ah (v:=(iV ((s:Int)))) h105_9) (Arw (Ay Market.f_sales Bia rfl rfl Qn (by decide) h105_1 r2) fun v108 r108=>Arw (Ax Qn rfl r108) fun v109 r109=>?_)
 have g110:=Bmn r109
 refine l_v (Ci (el:=51) Bif rfl r109) (l_v (Da rfl rfl) (l_k k107 (Asg (t:=decide ((s:Int) < ((m.sales.length:Nat):Int))) rfl (fun b111=>?_) (fun b111=>?_))))
 ·have q111:=of_decide_eq_true b111
  refine Al (k106 _ _ _ _ ?_)
  refine Ai fun K112 k112=>Ao (w_q rfl rfl fun K113 k113=>Arw (Ay Market.f_sales Bia rfl rfl Qn (by decide) h105_1 r2) fun v114 r114=>Arw (Ax Qn rfl r114) fun v115 r115=>l_v (Ah (v:=(iV ((s:Int)))) h105_9) ?_)
  obtain ⟨a117,ha117⟩:=Ed (xs:=m.sales) (i:=s) (by omega)
  refine Arw (Ch s Bif Up rfl r115 (q:=(s:Int)) rfl rfl ha117) fun v116 r116=>Arw (Ax Up rfl r116) fun v118 r118=>Arv (Ct Agb fun k119=>?_)
  refine Cx rfl (Dv (v:=v118) (a:=a117) (c:=Akd) Up rfl rfl r118 rfl ?_)
  refine Bb (a:=a117) r118 fun ρ120 l120 r120=>?_
  replace r2:=Bmg l120 r2
  refine Ary rfl rfl k113 fun K121 K122 k121 k122=>Arw (Ay Sale.f_grams Bin rfl rfl ty3 (by decide) rfl r120) fun v123 r123=>?_
  have ⟨g124a,g124b⟩:=At.rng r123
  refine l_v (Bc ty3 rfl r123) (Arv (Bm (Ave) Bjm rfl rfl ⟨rfl,rfl,rfl,trivial⟩ ?_))
  refine l_v (Iy rfl) (l_k k122 (Asg (t:=!(inR a117.grams 0 1000000)) rfl (fun b125=>?_) (fun b125=>?_)))
  ·have b126:=not_eq_t b125
   have q126:=Tr.1 b126
   refine w_q rfl rfl fun K127 k127=>Lo (iV (1)) (l_k k127 (Aj (Bmi (Bmm l2 l120)) (Aq (hret _ _ _ ⟨rfl,rfl,eT (iV (1)) ?_⟩))))
   have hF:Ew m = 0:=by rw [Ew,if_neg (by omega),Fb fun j hj=>p26_1 j (by omega)]
   have hf:Jb m s = 1:=by simp [Jb,ha117,b8,b15,b22,b32,b101,b111,b125,b126,q8,q15,q22,q32,q101,q111,q126]
   rw [Cf,Gr q8,Gr q15,Gr hF,Jc,if_neg (by omega),Db p105_1 (by omega) hf (by omega)]
  have b128:=not_eq_f b125
  have q128:=Fz.1 b128
  refine Al (k121 _ _ _ _ ?_)
  refine Asb rfl rfl fun K129 K130 k129 k130=>Arw (Ay Sale.f_sellers Bin rfl rfl Vh (by decide) rfl r120) fun v131 r131=>Arw (Ax Vh rfl r131) fun v132 r132=>?_
  have g133:=Bmn r132
  refine l_v (Ci (el:=3) Bhy rfl r132) (l_v (Ek rfl rfl) (l_k k130 (Asg (t:=((a117.sellers.length:Nat):Int) == 0) rfl (fun b134=>?_) (fun b134=>?_))))
  ·have q134:=Jr b134
   refine w_q rfl rfl fun K135 k135=>Lo (iV (2)) (l_k k135 (Aj (Bmi (Bmm l2 l120)) (Aq (hret _ _ _ ⟨rfl,rfl,eT (iV (2)) ?_⟩))))
   have hF:Ew m = 0:=by rw [Ew,if_neg (by omega),Fb fun j hj=>p26_1 j (by omega)]
   have hf:Jb m s = 2:=by simp [Jb,ha117,b8,b15,b22,b32,b101,b111,b125,b128,b134,q8,q15,q22,q32,q101,q111,q128,q134]
   rw [Cf,Gr q8,Gr q15,Gr hF,Jc,if_neg (by omega),Db p105_1 (by omega) hf (by omega)]
  have q134:=Jq b134
  refine Al (k129 _ _ _ _ ?_)
  refine w_q rfl rfl fun K136 k136=>Lo (iV (0)) (l_k k136 (Ao (Cc (fun mm ee dd ρ' σ'=>∃ (q:Nat),(a117.sellers.length - q) = mm∧[] = dd∧ρ120 = ρ'∧σ = σ'∧ee 1 = (.pointer (some ⟨k2,0,none⟩))∧ee 9 = (iV ((s:Int)))∧ee 10 = (.pointer (some ⟨k119,0,none⟩))∧ee 11 = (iV ((q:Int)))∧(q ≤ a117.sellers.length)∧(∀ j,j < q→Gt m a117 j = 0)∧True) (m:=_) ⟨0,rfl,rfl,rfl,rfl,h105_1,h105_9,rfl,rfl,(Nat.zero_le _),(fun j h=>absurd h (Nat.not_lt_zero _)),trivial⟩ ?_)))
  rintro m137 e137 _ _ _ ⟨q,rfl,rfl,rfl,rfl,h137_1,h137_9,h137_10,h137_11,p137_0,p137_1,_⟩
  refine Asb rfl rfl fun K138 K139 k138 k139=>l_v (Ah (v:=(iV ((q:Int)))) h137_11) (Arw (Ay Sale.f_sellers Bin rfl rfl Vh (by decide) h137_10 r120) fun v140 r140=>Arw (Ax Vh rfl r140) fun v141 r141=>?_)
  have g142:=Bmn r141
  refine l_v (Ci (el:=3) Bhy rfl r141) (l_v (Da rfl rfl) (l_k k139 (Asg (t:=decide ((q:Int) < ((a117.sellers.length:Nat):Int))) rfl (fun b143=>?_) (fun b143=>?_))))
  ·have q143:=of_decide_eq_true b143
   refine Al (k138 _ _ _ _ ?_)
   refine Ai fun K144 k144=>Ao (Ai fun K145 k145=>Ai fun K146 k146=>Atd (Asj 0 Aob rfl (Ay Sale.f_sellers Bin rfl rfl Vh (by decide) h137_10 r120) fun v147 r147=>Asj 1 Aoc rfl (Ax Vh rfl r147) fun v148 r148=>Ash 2 Aod rfl (Ah (v:=(iV ((q:Int)))) h137_11) ?_))
   obtain ⟨a150,ha150⟩:=Ed (xs:=a117.sellers) (i:=q) (by omega)
   refine Asj 3 Aoe rfl (Ch q Bhy ty3 rfl r148 (q:=(q:Int)) rfl rfl ha150) fun v149 r149=>?_
   have ⟨g151a,g151b⟩:=At.rng r149
   refine Ash 4 Aof rfl (Bc ty3 rfl r149) (Asn 5 Anr rfl (Ay Market.f_houses Bia rfl rfl Hw (by decide) h137_1 r2) fun v152 r152=>Asn 6 zZ2 rfl (Ax Hw rfl r152) fun v153 r153=>?_)
   have g154:=Bmn r153
   refine Asi 7 zZ3 rfl (Ci (el:=9) Bic rfl r153) (Asi 8 zZ4 rfl (Ou rfl rfl (z:=(((m.houses.length:Nat):Int) - 1)) wrE) (Asm 9 zZ5 rfl (Bm (Ave) Bjm rfl rfl ⟨rfl,rfl,rfl,trivial⟩ ⟨Bml,?_⟩)))
   refine Asi 10 zZ6 rfl (Iy rfl) (Ec rfl (k146 _ _ _ _ ?_))
   refine Asg (t:=!(inR a150 0 ((((m.houses.length:Nat):Int) - 1)))) rfl (fun b155=>?_) (fun b155=>?_)
   ·have b156:=not_eq_t b155
    have q156:=Tr.1 b156
    refine w_q rfl rfl fun K157 k157=>Lo (iV (6)) (l_k k157 (Aj (Bmi (Bmm l2 l120)) (Aq (hret _ _ _ ⟨rfl,rfl,eT (iV (6)) ?_⟩))))
    have hF:Ew m = 0:=by rw [Ew,if_neg (by omega),Fb fun j hj=>p26_1 j (by omega)]
    have hq:Gt m a117 q = 6:=by
     simp [Gt,ha150,b8,b15,b22,b32,b101,b111,b125,b128,b134,b143,b155,b156]
    have hf:Jb m s = 6:=by simp only [Jb,ha117,b8,b15,b22,b32,b101,b111,b125,b128,b134,b143,b155,b156,if_true]; rw [if_neg (by omega),Db p137_1 (by omega) hq (by omega)]
    rw [Cf,Gr q8,Gr q15,Gr hF,Jc,if_neg (by omega),Db p105_1 (by omega) hf (by omega)]
   have b158:=not_eq_f b155
   have q158:=Fz.1 b158
   refine Al (k145 _ _ _ _ ?_)
   refine Ai fun K159 k159=>Atd (Asi 0 Ard rfl (Ah (v:=(iV ((q:Int)))) h137_11) (Asi 1 Are rfl (Gl rfl rfl) (Asi 2 Arf rfl (Ah (v:=(.bool (decide ((q:Int) > 0)))) rfl) (Akk (decide ((q:Int) > 0)) (fun b160=>?_) (fun b160=>?_)))))
   ·have q160:=of_decide_eq_true b160
    refine Atp 3 Aog rfl Bml (gY rfl b160) (Ay Sale.f_sellers Bin rfl rfl Vh (by decide) h137_10 r120) fun v161 r161=>Atp 4 Aoh rfl Bml (gY rfl b160) (Ax Vh rfl r161) fun v162 r162=>Auy 5 Aoi rfl Bml (gY rfl b160) (Ah (v:=(iV ((q:Int)))) h137_11) (Atp 6 Aoj rfl Bml (gY rfl b160) (Ch q Bhy ty3 rfl r162 (q:=(q:Int)) rfl rfl ha150) fun v163 r163=>?_)
    have ⟨g164a,g164b⟩:=At.rng r163
    refine Auy 7 zZ8 rfl Bml (gY rfl b160) (Bc ty3 rfl r163) (Atp 8 zZ9 rfl Bml (gY rfl b160) (Ay Sale.f_sellers Bin rfl rfl Vh (by decide) h137_10 r120) fun v165 r165=>Atp 9 Ajy rfl Bml (gY rfl b160) (Ax Vh rfl r165) fun v166 r166=>Ass 10 Arg rfl Bml (gY rfl b160) (Ah (v:=(iV ((q:Int)))) h137_11) (Ass 11 Arh rfl Bml (gY rfl b160) (Ou rfl rfl (z:=((q:Int) - 1)) wrE) ?_))
    obtain ⟨a168,ha168⟩:=Ed (xs:=a117.sellers) (i:=(((q:Int) - 1)).toNat) (by omega)
    refine Atv 12 Ajz rfl Bml (gY rfl b160) (Ch ((((q:Int) - 1)).toNat) Bhy ty3 rfl r166 (q:=((q:Int) - 1)) rfl (by omega) ha168) fun v167 r167=>?_
    have ⟨g169a,g169b⟩:=At.rng r167
    refine Ass 13 Aka rfl Bml (gY rfl b160) (Bc ty3 rfl r167) (Ass 14 Akb rfl Bml (gY rfl b160) (Uz rfl rfl) (Asi 15 Amg rfl (Bt rfl b160 (v:=(.bool (decide (a150 ≤ a168)))) rfl) (Ec rfl (k159 _ _ _ _ ?_))))
    refine Asg (t:=decide (a150 ≤ a168)) rfl (fun b170=>?_) (fun b170=>?_)
    ·have q170:=of_decide_eq_true b170
     refine w_q rfl rfl fun K171 k171=>Lo (iV (7)) (l_k k171 (Aj (Bmi (Bmm l2 l120)) (Aq (hret _ _ _ ⟨rfl,rfl,eT (iV (7)) ?_⟩))))
     have hF:Ew m = 0:=by rw [Ew,if_neg (by omega),Fb fun j hj=>p26_1 j (by omega)]
     have hq:Gt m a117 q = 7:=by
      have hp:a117.sellers[q - 1]? = some a168:=by rw [← ha168]; congr 1; omega
      have h0:0 < q:=by omega
      simp only [Gt,ha150,if_pos h0,hp,b8,b15,b22,b32,b101,b111,b125,b128,b134,b143,b155,b158,b160,b170,if_true]; first | rw [if_pos (by omega)] | rw [if_neg (by omega)]
     have hf:Jb m s = 7:=by simp only [Jb,ha117,b8,b15,b22,b32,b101,b111,b125,b128,b134,b143,b155,b158,b160,b170,if_true]; rw [if_neg (by omega),Db p137_1 (by omega) hq (by omega)]
     rw [Cf,Gr q8,Gr q15,Gr hF,Jc,if_neg (by omega),Db p105_1 (by omega) hf (by omega)]
    have q170:=of_decide_eq_false b170
    refine Al (k144 _ _ _ _ ?_)
    refine Ag rfl rfl (l_v (Ah (v:=(iV ((q:Int)))) h137_11) (l_v (Br rfl rfl (z:=(((q + 1):Nat):Int)) wrE) (Lo (iV ((((q + 1):Nat):Int))) (Ac ?_))))
    refine ⟨_,?_,((q + 1)),rfl,rfl,rfl,rfl,h137_1,h137_9,h137_10,rfl,(by omega),(Eg p137_1 (by
 have hp:a117.sellers[q - 1]? = some a168:=by rw [← ha168]; congr 1; omega
 have h0:0 < q:=by omega
 simp only [Gt,ha150,if_pos h0,hp,b8,b15,b22,b32,b101,b111,b125,b128,b134,b143,b155,b158,b160,b170,if_true]; first | rw [if_pos (by omega)] | rw [if_neg (by omega)])),trivial⟩
    omega
   have q160:=of_decide_eq_false b160
   refine Ato 3 Aog rfl Bml (gN rfl b160) (Ato 4 Aoh rfl Bml (gN rfl b160) (Ato 5 Aoi rfl Bml (gN rfl b160) (Ato 6 Aoj rfl Bml (gN rfl b160) (Ato 7 zZ8 rfl Bml (gN rfl b160) (Ato 8 zZ9 rfl Bml (gN rfl b160) (Ato 9 Ajy rfl Bml (gN rfl b160) (Aua 10 Arg rfl Bml (gN rfl b160) (Aua 11 Arh rfl Bml (gN rfl b160) (Aua 12 Ajz rfl Bml (gN rfl b160) (Aua 13 Aka rfl Bml (gN rfl b160) (Aua 14 Akb rfl Bml (gN rfl b160) (Asi 15 Amg rfl (Bn rfl b160 (v:=(.bool (false))) rfl) (Ec rfl (k159 _ _ _ _ ?_))))))))))))))
   refine Cg rfl rfl (Al (k144 _ _ _ _ ?_))
   refine Ag rfl rfl (l_v (Ah (v:=(iV ((q:Int)))) h137_11) (l_v (Br rfl rfl (z:=(((q + 1):Nat):Int)) wrE) (Lo (iV ((((q + 1):Nat):Int))) (Ac ?_))))
   refine ⟨_,?_,((q + 1)),rfl,rfl,rfl,rfl,h137_1,h137_9,h137_10,rfl,(by omega),(Eg p137_1 (by
 have h0:¬ 0 < q:=by omega
 simp [Gt,ha150,if_neg h0,b8,b15,b22,b32,b101,b111,b125,b128,b134,b143,b155,b158,b160])),trivial⟩
   omega
  have q143:=of_decide_eq_false b143
  refine Bx (k112 _ _ _ _ ?_)
  refine Ag rfl rfl (l_v (Ah (v:=(iV ((s:Int)))) h137_9) (l_v (Br rfl rfl (z:=(((s + 1):Nat):Int)) wrE) (Lo (iV ((((s + 1):Nat):Int))) (Bj (Bmi l120) (Ac ?_)))))
  refine ⟨_,?_,((s + 1)),rfl,rfl,rfl,rfl,h137_1,rfl,(by omega),(Eg p105_1 (by
  simp only [Jb,ha117,b8,b15,b22,b32,b101,b111,b125,b128,b134,b143,if_true]; rw [if_neg (by omega),Fb fun j hj=>p137_1 j (by omega)])),trivial⟩
  omega
 have q111:=of_decide_eq_false b111
 refine Bx (k103 _ _ _ _ ?_)
 refine w_q rfl rfl fun K172 k172=>Lo (iV (0)) (l_k k172 (Aj (Bmi l2) (Aq (hret _ _ _ ⟨rfl,rfl,eT (iV (0)) ?_⟩))))
 have hF:Ew m = 0:=by rw [Ew,if_neg (by omega),Fb fun j hj=>p26_1 j (by omega)]
 rw [Cf,Gr q8,Gr q15,Gr hF,Jc,if_neg (by omega),Fb fun j hj=>p105_1 j (by omega)]
end
section
set_option maxHeartbeats 1000000
open Go
variable {mn:Bool} {X:Frame→List Frame→Ro→Own→Cy→Prop} {ρ:Ro} {σ:Own}
theorem Agv {a b:List Int} {va vb:Value} (ra:Val ρ va a) (rb:Val ρ vb b):CallsH (CX mn X) 24 #[va,vb] ρ σ (rP ρ σ (.bool (decide (a = b)))):=by
 refine Bh (n:=26) (args:=[va,vb]) [4] Tryd.func24 rfl rfl rfl rfl fun Q hret hnor=>w_q rfl rfl fun K1 k1=>Lo (.bool (false)) (Ary rfl rfl k1 fun K2 K3 k2 k3=>Asf va ?_)
 have g4:=Bmn ra
 refine l_v (Ci (el:=3) Bhy rfl ra) (Asf vb ?_)
 have g5:=Bmn rb
 refine l_v (Ci (el:=3) Bhy rfl rb) (l_v (Dg rfl rfl) (l_k k3 (Asg (t:=((a.length:Nat):Int) != ((b.length:Nat):Int)) rfl (fun b6=>?_) (fun b6=>?_))))
 ·have q6:=Ls b6
  refine w_q rfl rfl fun K7 k7=>Lo (.bool (false)) (l_k k7 (Aq (hret _ _ _ ⟨rfl,rfl,eT (.bool (false)) ?_⟩)))
  rw [decide_eq_false (fun h=>q6 (by rw [h]))]
 have q6:=Jh b6
 refine Al (k2 _ _ _ _ ?_)
 refine Asb rfl rfl fun K8 K9 k8 k9=>Lo (iV (0)) (l_k k9 (Ao (Cc (fun mm ee dd ρ' σ'=>∃ (i:Nat),(a.length - i) = mm∧[] = dd∧ρ = ρ'∧σ = σ'∧ee 0 = va∧ee 1 = vb∧ee 5 = (iV ((i:Int)))∧(i ≤ a.length)∧(∀ j,j < i→a[j]? = b[j]?)∧True) (m:=_) ⟨0,rfl,rfl,rfl,rfl,rfl,rfl,rfl,(Nat.zero_le _),(fun j h=>absurd h (Nat.not_lt_zero _)),trivial⟩ ?_)))
 rintro m10 e10 _ _ _ ⟨i,rfl,rfl,rfl,rfl,h10_0,h10_1,h10_5,p10_0,p10_1,_⟩
 refine Asb rfl rfl fun K11 K12 k11 k12=>l_v (Ah (v:=(iV ((i:Int)))) h10_5) (l_v (Ah (v:=va) h10_0) ?_)
 have g13:=Bmn ra
 refine l_v (Ci (el:=3) Bhy rfl ra) (l_v (Da rfl rfl) (l_k k12 (Asg (t:=decide ((i:Int) < ((a.length:Nat):Int))) rfl (fun b14=>?_) (fun b14=>?_))))
 ·have q14:=of_decide_eq_true b14
  refine Al (k11 _ _ _ _ ?_)
  refine Ai fun K15 k15=>Ao (Ai fun K16 k16=>Atd (Ash 0 Aqn rfl (Ah (v:=va) h10_0) (Ash 1 Aqo rfl (Ah (v:=(iV ((i:Int)))) h10_5) ?_)))
  obtain ⟨a18,ha18⟩:=Ed (xs:=a) (i:=i) (by omega)
  refine Asj 2 Aqp rfl (Ch i Bhy ty3 rfl ra (q:=(i:Int)) rfl rfl ha18) fun v17 r17=>?_
  have ⟨g19a,g19b⟩:=At.rng r17
  refine Ash 3 Aqq rfl (Bc ty3 rfl r17) (Ash 4 Aqr rfl (Ah (v:=vb) h10_1) (Asi 5 Aqs rfl (Ah (v:=(iV ((i:Int)))) h10_5) ?_))
  obtain ⟨a21,ha21⟩:=Ed (xs:=b) (i:=i) (by omega)
  refine Asn 6 Aqt rfl (Ch i Bhy ty3 rfl rb (q:=(i:Int)) rfl rfl ha21) fun v20 r20=>?_
  have ⟨g22a,g22b⟩:=At.rng r20
  refine Asi 7 Aqu rfl (Bc ty3 rfl r20) (Asi 8 Aqv rfl (Dg rfl rfl) (Ec rfl (k16 _ _ _ _ ?_)))
  refine Asg (t:=a18 != a21) rfl (fun b23=>?_) (fun b23=>?_)
  ·have q23:=Ls b23
   refine w_q rfl rfl fun K24 k24=>Lo (.bool (false)) (l_k k24 (Aq (hret _ _ _ ⟨rfl,rfl,eT (.bool (false)) ?_⟩)))
   rw [decide_eq_false (fun h=>by subst h; rw [ha18] at ha21; injection ha21 with h1; exact q23 h1)]
  have q23:=Jh b23
  refine Al (k15 _ _ _ _ ?_)
  refine Ag rfl rfl (l_v (Ah (v:=(iV ((i:Int)))) h10_5) (l_v (Br rfl rfl (z:=(((i + 1):Nat):Int)) wrE) (Lo (iV ((((i + 1):Nat):Int))) (Ac ?_))))
  refine ⟨_,?_,((i + 1)),rfl,rfl,rfl,rfl,h10_0,h10_1,rfl,(by omega),(Eg p10_1 (by rw [ha18,ha21,q23])),trivial⟩
  omega
 have q14:=of_decide_eq_false b14
 refine Bx (k8 _ _ _ _ ?_)
 refine w_q rfl rfl fun K25 k25=>Lo (.bool (true)) (l_k k25 (Aq (hret _ _ _ ⟨rfl,rfl,eT (.bool (true)) ?_⟩)))
 rw [decide_eq_true (Aif (by omega) fun j hj=>p10_1 j (by omega))]
theorem Ol {a b:List Int} {va vb:Value} (ra:Val ρ va a) (rb:Val ρ vb b):CallsH (CX mn X) 22 #[va,vb] ρ σ (rP ρ σ (.bool (decide (a = b)))):=by
 refine Bh (n:=26) (args:=[va,vb]) [4] Tryd.func22 rfl rfl rfl rfl fun Q hret hnor=>w_q rfl rfl fun K1 k1=>Lo (.bool (false)) (Ary rfl rfl k1 fun K2 K3 k2 k3=>Asf va ?_)
 have g4:=Bmn ra
 refine l_v (Ci (el:=83) Bil rfl ra) (Asf vb ?_)
 have g5:=Bmn rb
 refine l_v (Ci (el:=83) Bil rfl rb) (l_v (Dg rfl rfl) (l_k k3 (Asg (t:=((a.length:Nat):Int) != ((b.length:Nat):Int)) rfl (fun b6=>?_) (fun b6=>?_))))
 ·have q6:=Ls b6
  refine w_q rfl rfl fun K7 k7=>Lo (.bool (false)) (l_k k7 (Aq (hret _ _ _ ⟨rfl,rfl,eT (.bool (false)) ?_⟩)))
  rw [decide_eq_false (fun h=>q6 (by rw [h]))]
 have q6:=Jh b6
 refine Al (k2 _ _ _ _ ?_)
 refine Asb rfl rfl fun K8 K9 k8 k9=>Lo (iV (0)) (l_k k9 (Ao (Cc (fun mm ee dd ρ' σ'=>∃ (i:Nat),(a.length - i) = mm∧[] = dd∧ρ = ρ'∧σ = σ'∧ee 0 = va∧ee 1 = vb∧ee 5 = (iV ((i:Int)))∧(i ≤ a.length)∧(∀ j,j < i→a[j]? = b[j]?)∧True) (m:=_) ⟨0,rfl,rfl,rfl,rfl,rfl,rfl,rfl,(Nat.zero_le _),(fun j h=>absurd h (Nat.not_lt_zero _)),trivial⟩ ?_)))
 rintro m10 e10 _ _ _ ⟨i,rfl,rfl,rfl,rfl,h10_0,h10_1,h10_5,p10_0,p10_1,_⟩
 refine Asb rfl rfl fun K11 K12 k11 k12=>l_v (Ah (v:=(iV ((i:Int)))) h10_5) (l_v (Ah (v:=va) h10_0) ?_)
 have g13:=Bmn ra
 refine l_v (Ci (el:=83) Bil rfl ra) (l_v (Da rfl rfl) (l_k k12 (Asg (t:=decide ((i:Int) < ((a.length:Nat):Int))) rfl (fun b14=>?_) (fun b14=>?_))))
 ·have q14:=of_decide_eq_true b14
  refine Al (k11 _ _ _ _ ?_)
  refine Ai fun K15 k15=>Ao (Ai fun K16 k16=>Atd (Ash 0 Aqn rfl (Ah (v:=va) h10_0) (Ash 1 Aqo rfl (Ah (v:=(iV ((i:Int)))) h10_5) ?_)))
  obtain ⟨a18,ha18⟩:=Ed (xs:=a) (i:=i) (by omega)
  refine Asj 2 Aqp rfl (Ch i Bil Pi rfl ra (q:=(i:Int)) rfl rfl ha18) fun v17 r17=>?_
  have ⟨g19a,g19b⟩:=At.rng r17
  refine Ash 3 Aqq rfl (Bc Pi rfl r17) (Ash 4 Aqr rfl (Ah (v:=vb) h10_1) (Asi 5 Aqs rfl (Ah (v:=(iV ((i:Int)))) h10_5) ?_))
  obtain ⟨a21,ha21⟩:=Ed (xs:=b) (i:=i) (by omega)
  refine Asn 6 Aqt rfl (Ch i Bil Pi rfl rb (q:=(i:Int)) rfl rfl ha21) fun v20 r20=>?_
  have ⟨g22a,g22b⟩:=At.rng r20
  refine Asi 7 Aqu rfl (Bc Pi rfl r20) (Asi 8 Aqv rfl (Dg rfl rfl) (Ec rfl (k16 _ _ _ _ ?_)))
  refine Asg (t:=a18 != a21) rfl (fun b23=>?_) (fun b23=>?_)
  ·have q23:=Ls b23
   refine w_q rfl rfl fun K24 k24=>Lo (.bool (false)) (l_k k24 (Aq (hret _ _ _ ⟨rfl,rfl,eT (.bool (false)) ?_⟩)))
   rw [decide_eq_false (fun h=>by subst h; rw [ha18] at ha21; injection ha21 with h1; exact q23 h1)]
  have q23:=Jh b23
  refine Al (k15 _ _ _ _ ?_)
  refine Ag rfl rfl (l_v (Ah (v:=(iV ((i:Int)))) h10_5) (l_v (Br rfl rfl (z:=(((i + 1):Nat):Int)) wrE) (Lo (iV ((((i + 1):Nat):Int))) (Ac ?_))))
  refine ⟨_,?_,((i + 1)),rfl,rfl,rfl,rfl,h10_0,h10_1,rfl,(by omega),(Eg p10_1 (by rw [ha18,ha21,q23])),trivial⟩
  omega
 have q14:=of_decide_eq_false b14
 refine Bx (k8 _ _ _ _ ?_)
 refine w_q rfl rfl fun K25 k25=>Lo (.bool (true)) (l_k k25 (Aq (hret _ _ _ ⟨rfl,rfl,eT (.bool (true)) ?_⟩)))
 rw [decide_eq_true (Aif (by omega) fun j hj=>p10_1 j (by omega))]
end
section
set_option maxHeartbeats 1000000
open Go
variable {mn:Bool} {X:Frame→List Frame→Ro→Own→Cy→Prop} {ρ:Ro} {σ:Own}
theorem Ya {l:List UInt8} {vl f:Value} {p:UInt8→Bool} (rl:Val ρ vl l) (hf:Su f p):CallsH (CX mn X) 98 #[vl,f] ρ σ (rP ρ σ (iV (Oi l p))):=by
 refine Bh (n:=19) (args:=[vl,f]) [4] Tryd.func98 rfl rfl rfl rfl fun Q hret hnor=>w_q rfl rfl fun K1 k1=>Lo (iV (0)) (Ary rfl rfl k1 fun K2 K3 k2 k3=>Asf vl ?_)
 have g4:=Bmn rl
 refine l_v (Ci (el:=5) Bky rfl rl) (Asf (iV (0)) (l_k k3 (Ao (Cc (fun mm ee dd ρ' σ'=>∃ (i:Nat),(l.length - i) = mm∧[] = dd∧ρ = ρ'∧σ = σ'∧ee 0 = vl∧ee 1 = f∧ee 7 = (iV (((l.length:Nat):Int)))∧ee 8 = (iV ((i:Int)))∧(i ≤ l.length)∧(∀ j,j < i→atP l p j = false)∧True) (m:=_) ⟨0,rfl,rfl,rfl,rfl,rfl,rfl,rfl,rfl,(Nat.zero_le _),(fun j h=>absurd h (Nat.not_lt_zero _)),trivial⟩ ?_))))
 rintro m5 e5 _ _ _ ⟨i,rfl,rfl,rfl,rfl,h5_0,h5_1,h5_7,h5_8,p5_0,p5_1,_⟩
 refine w_q rfl rfl fun K6 k6=>l_v (Da h5_8 h5_7) (Asa k6 fun K7 k7=>Asg (t:=decide ((i:Int) < ((l.length:Nat):Int))) rfl (fun b8=>?_) (fun b8=>?_))
 ·have q8:=of_decide_eq_true b8
  refine Al (k7 _ _ _ _ ?_)
  refine Ai fun K9 k9=>Ao (w_q rfl rfl fun K10 k10=>l_v (Ah (v:=(iV ((i:Int)))) h5_8) (Lo (iV ((i:Int))) (Arx rfl rfl k10 fun K11 k11=>l_v (Ah (v:=f) h5_1) (l_v (Ah (v:=vl) h5_0) (Asf (iV ((i:Int))) ?_)))))
  obtain ⟨a13,ha13⟩:=Ed (xs:=l) (i:=i) (by omega)
  refine Arw (Ch i Bky ty5 rfl rl (q:=(i:Int)) rfl rfl ha13) fun v12 r12=>l_v (Aaf ty5 rfl r12) (Arv (Ajp (pr:=p) (a:=a13) (v:=(.int .u8 (((a13.toNat:Nat):Int)))) hf rfl rfl (Uq.2 rfl) ?_))
  refine l_k k11 (Asg (t:=(p) a13) rfl (fun b15=>?_) (fun b15=>?_))
  ·refine w_q rfl rfl fun K16 k16=>Asf (iV ((i:Int))) (Lo (iV ((i:Int))) (l_k k16 (Aq (hret _ _ _ ⟨rfl,rfl,eT (iV ((i:Int))) ?_⟩))))
   have hi:=Fh (n:=l.length) p5_1 (by omega) (show atP l p i = true by simp only [atP,ha13,b8,b15])
   simp only [Oi,hi]
  refine Al (k9 _ _ _ _ ?_)
  refine Ag rfl rfl (l_v (Br h5_8 rfl (z:=(((i + 1):Nat):Int)) wrE) (Asf (iV ((((i + 1):Nat):Int))) (Ac ?_)))
  refine ⟨_,?_,((i + 1)),rfl,rfl,rfl,rfl,h5_0,h5_1,h5_7,rfl,(by omega),(Eg p5_1 (by simp only [atP,ha13,b8,b15])),trivial⟩
  omega
 have q8:=of_decide_eq_false b8
 refine Bx (k2 _ _ _ _ ?_)
 refine w_q rfl rfl fun K17 k17=>Lo (iV ((-1))) (l_k k17 (Aq (hret _ _ _ ⟨rfl,rfl,eT (iV ((-1))) ?_⟩)))
 have hn:=Ep (n:=l.length) fun j hj=>p5_1 j (by omega)
 simp only [Oi,hn]
theorem Yb {l:List Span} {vl f:Value} {p:Span→Bool} (rl:Val ρ vl l) (hf:Su f p):CallsH (CX mn X) 95 #[vl,f] ρ σ (rP ρ σ (iV (Oi l p))):=by
 refine Bh (n:=19) (args:=[vl,f]) [4] Tryd.func95 rfl rfl rfl rfl fun Q hret hnor=>w_q rfl rfl fun K1 k1=>Lo (iV (0)) (Ary rfl rfl k1 fun K2 K3 k2 k3=>Asf vl ?_)
 have g4:=Bmn rl
 refine l_v (Ci (el:=27) Bis rfl rl) (Asf (iV (0)) (l_k k3 (Ao (Cc (fun mm ee dd ρ' σ'=>∃ (i:Nat),(l.length - i) = mm∧[] = dd∧ρ = ρ'∧σ = σ'∧ee 0 = vl∧ee 1 = f∧ee 7 = (iV (((l.length:Nat):Int)))∧ee 8 = (iV ((i:Int)))∧(i ≤ l.length)∧(∀ j,j < i→atP l p j = false)∧True) (m:=_) ⟨0,rfl,rfl,rfl,rfl,rfl,rfl,rfl,rfl,(Nat.zero_le _),(fun j h=>absurd h (Nat.not_lt_zero _)),trivial⟩ ?_))))
 rintro m5 e5 _ _ _ ⟨i,rfl,rfl,rfl,rfl,h5_0,h5_1,h5_7,h5_8,p5_0,p5_1,_⟩
 refine w_q rfl rfl fun K6 k6=>l_v (Da h5_8 h5_7) (Asa k6 fun K7 k7=>Asg (t:=decide ((i:Int) < ((l.length:Nat):Int))) rfl (fun b8=>?_) (fun b8=>?_))
 ·have q8:=of_decide_eq_true b8
  refine Al (k7 _ _ _ _ ?_)
  refine Ai fun K9 k9=>Ao (w_q rfl rfl fun K10 k10=>l_v (Ah (v:=(iV ((i:Int)))) h5_8) (Lo (iV ((i:Int))) (Arx rfl rfl k10 fun K11 k11=>l_v (Ah (v:=f) h5_1) (l_v (Ah (v:=vl) h5_0) (Asf (iV ((i:Int))) ?_)))))
  obtain ⟨a13,ha13⟩:=Ed (xs:=l) (i:=i) (by omega)
  refine Arw (Ch i Bis Mx rfl rl (q:=(i:Int)) rfl rfl ha13) fun v12 r12=>Arw (Ax Mx rfl r12) fun v14 r14=>Arv (Ajp (pr:=p) (a:=a13) (v:=v14) hf rfl rfl r14 ?_)
  refine l_k k11 (Asg (t:=(p) a13) rfl (fun b15=>?_) (fun b15=>?_))
  ·refine w_q rfl rfl fun K16 k16=>Asf (iV ((i:Int))) (Lo (iV ((i:Int))) (l_k k16 (Aq (hret _ _ _ ⟨rfl,rfl,eT (iV ((i:Int))) ?_⟩))))
   have hi:=Fh (n:=l.length) p5_1 (by omega) (show atP l p i = true by simp only [atP,ha13,b8,b15])
   simp only [Oi,hi]
  refine Al (k9 _ _ _ _ ?_)
  refine Ag rfl rfl (l_v (Br h5_8 rfl (z:=(((i + 1):Nat):Int)) wrE) (Asf (iV ((((i + 1):Nat):Int))) (Ac ?_)))
  refine ⟨_,?_,((i + 1)),rfl,rfl,rfl,rfl,h5_0,h5_1,h5_7,rfl,(by omega),(Eg p5_1 (by simp only [atP,ha13,b8,b15])),trivial⟩
  omega
 have q8:=of_decide_eq_false b8
 refine Bx (k2 _ _ _ _ ?_)
 refine w_q rfl rfl fun K17 k17=>Lo (iV ((-1))) (l_k k17 (Aq (hret _ _ _ ⟨rfl,rfl,eT (iV ((-1))) ?_⟩)))
 have hn:=Ep (n:=l.length) fun j hj=>p5_1 j (by omega)
 simp only [Oi,hn]
theorem Ta {l:List UInt8} {vl f:Value} {p:UInt8→Bool} (rl:Val ρ vl l) (hf:Su f p):CallsH (CX mn X) 96 #[vl,f] ρ σ (rP ρ σ (.bool (l.any p))):=by
 refine Bh (n:=9) (args:=[vl,f]) [4] Tryd.func96 rfl rfl rfl rfl fun Q hret hnor=>w_q rfl rfl fun K1 k1=>Lo (.bool (false)) (Arx rfl rfl k1 fun K2 k2=>Asf vl (Asf f (Arv (Bm (Ya rl hf) Tryd.func98 rfl rfl ⟨rfl,rfl,trivial⟩ ?_))))
 refine l_v (Uy rfl rfl) (Lo (.bool (decide (Oi l p ≥ 0))) (l_k k2 (Aq (hret _ _ _ ⟨rfl,rfl,eT (.bool (decide (Oi l p ≥ 0))) ?_⟩))))
 rw [Yq]
theorem Tb {l:List Span} {vl f:Value} {p:Span→Bool} (rl:Val ρ vl l) (hf:Su f p):CallsH (CX mn X) 92 #[vl,f] ρ σ (rP ρ σ (.bool (l.any p))):=by
 refine Bh (n:=9) (args:=[vl,f]) [4] Tryd.func92 rfl rfl rfl rfl fun Q hret hnor=>w_q rfl rfl fun K1 k1=>Lo (.bool (false)) (Arx rfl rfl k1 fun K2 k2=>Asf vl (Asf f (Arv (Bm (Yb rl hf) Tryd.func95 rfl rfl ⟨rfl,rfl,trivial⟩ ?_))))
 refine l_v (Uy rfl rfl) (Lo (.bool (decide (Oi l p ≥ 0))) (l_k k2 (Aq (hret _ _ _ ⟨rfl,rfl,eT (.bool (decide (Oi l p ≥ 0))) ?_⟩))))
 rw [Yq]
theorem Ahe {c:UInt8} :CallsH (CX mn X) 97 #[(.int .u8 (((c.toNat:Nat):Int)))] ρ σ (rP ρ σ (.bool (Ov ((c.toNat:Nat):Int)))):=by
 refine Bh (n:=21) (args:=[(.int .u8 (((c.toNat:Nat):Int)))]) [2] Tryd.func97 rfl rfl rfl rfl fun Q hret hnor=>w_q rfl rfl fun K1 k1=>Lo (.bool (false)) (Arx rfl rfl k1 fun K2 k2=>Asf (.int .u8 (((c.toNat:Nat):Int))) (l_v (Da rfl rfl) (Asf (.bool (decide (((c.toNat:Nat):Int) < 97))) (Cn (decide (((c.toNat:Nat):Int) < 97)) (fun b3=>?_) (fun b3=>?_)))))
 ·have q3:=of_decide_eq_true b3
  refine Ap (gN rfl b3) (Ap (gN rfl b3) (l_v (Bt rfl b3 (v:=(.bool (true))) rfl) (Asf (.bool (true)) (l_M (.int .u8 (((c.toNat:Nat):Int))) (gY rfl rfl) rfl (Aa (gY rfl rfl) (Da rfl rfl) (l_M (.bool (decide (((c.toNat:Nat):Int) < 48))) (gY rfl rfl) rfl (Cn (decide (((c.toNat:Nat):Int) < 48)) (fun b4=>?_) (fun b4=>?_))))))))
  ·have q4:=of_decide_eq_true b4
   refine Ap (gN rfl b4) (Ap (gN rfl b4) (Aa (gY rfl rfl) (Bt rfl b4 (v:=(.bool (true))) rfl) (l_v (Bt rfl rfl (v:=(.bool (true))) rfl) (Asf (.bool (true)) (l_M (.int .u8 (((c.toNat:Nat):Int))) (gY rfl rfl) rfl (Aa (gY rfl rfl) (Dg rfl rfl) (l_v (Bt rfl rfl (v:=(.bool (((c.toNat:Nat):Int) != 45))) rfl) (Lo (.bool (((c.toNat:Nat):Int) != 45)) (l_k k2 (Aq (hret _ _ _ ⟨rfl,rfl,eT (.bool (((c.toNat:Nat):Int) != 45)) ?_⟩)))))))))))
   simp only [Ov,b3,b4,Bool.true_and,Bool.false_and,Bool.and_true,Bool.and_false,Bool.true_or,Bool.false_or,Bool.or_true,Bool.or_false,Bool.not_true,Bool.not_false]
  have q4:=of_decide_eq_false b4
  refine l_M (.int .u8 (((c.toNat:Nat):Int))) (gY rfl b4) rfl (Aa (gY rfl b4) (Gl rfl rfl) (Aa (gY rfl rfl) (Bn rfl b4 (v:=(.bool (decide (((c.toNat:Nat):Int) > 57)))) rfl) (l_v (Bt rfl rfl (v:=(.bool (decide (((c.toNat:Nat):Int) > 57)))) rfl) (Asf (.bool (decide (((c.toNat:Nat):Int) > 57))) (Cn (decide (((c.toNat:Nat):Int) > 57)) (fun b5=>?_) (fun b5=>?_))))))
  ·have q5:=of_decide_eq_true b5
   refine l_M (.int .u8 (((c.toNat:Nat):Int))) (gY rfl b5) rfl (Aa (gY rfl b5) (Dg rfl rfl) (l_v (Bt rfl b5 (v:=(.bool (((c.toNat:Nat):Int) != 45))) rfl) (Lo (.bool (((c.toNat:Nat):Int) != 45)) (l_k k2 (Aq (hret _ _ _ ⟨rfl,rfl,eT (.bool (((c.toNat:Nat):Int) != 45)) ?_⟩))))))
   simp only [Ov,b3,b4,b5,Bool.true_and,Bool.false_and,Bool.and_true,Bool.and_false,Bool.true_or,Bool.false_or,Bool.or_true,Bool.or_false,Bool.not_true,Bool.not_false]
  have q5:=of_decide_eq_false b5
  refine Ap (gN rfl b5) (Ap (gN rfl b5) (l_v (Bn rfl b5 (v:=(.bool (false))) rfl) (Lo (.bool (false)) (l_k k2 (Aq (hret _ _ _ ⟨rfl,rfl,eT (.bool (false)) ?_⟩))))))
  simp only [Ov,b3,b4,b5,Bool.true_and,Bool.false_and,Bool.and_true,Bool.and_false,Bool.true_or,Bool.false_or,Bool.or_true,Bool.or_false,Bool.not_true,Bool.not_false]
 have q3:=of_decide_eq_false b3
 refine l_M (.int .u8 (((c.toNat:Nat):Int))) (gY rfl b3) rfl (Aa (gY rfl b3) (Gl rfl rfl) (l_v (Bn rfl b3 (v:=(.bool (decide (((c.toNat:Nat):Int) > 122)))) rfl) (Asf (.bool (decide (((c.toNat:Nat):Int) > 122))) (Cn (decide (((c.toNat:Nat):Int) > 122)) (fun b6=>?_) (fun b6=>?_)))))
 ·have q6:=of_decide_eq_true b6
  refine l_M (.int .u8 (((c.toNat:Nat):Int))) (gY rfl b6) rfl (Aa (gY rfl b6) (Da rfl rfl) (l_M (.bool (decide (((c.toNat:Nat):Int) < 48))) (gY rfl b6) rfl (Cn (decide (((c.toNat:Nat):Int) < 48)) (fun b7=>?_) (fun b7=>?_))))
  ·have q7:=of_decide_eq_true b7
   refine Ap (gN rfl b7) (Ap (gN rfl b7) (Aa (gY rfl b6) (Bt rfl b7 (v:=(.bool (true))) rfl) (l_v (Bt rfl b6 (v:=(.bool (true))) rfl) (Asf (.bool (true)) (l_M (.int .u8 (((c.toNat:Nat):Int))) (gY rfl rfl) rfl (Aa (gY rfl rfl) (Dg rfl rfl) (l_v (Bt rfl rfl (v:=(.bool (((c.toNat:Nat):Int) != 45))) rfl) (Lo (.bool (((c.toNat:Nat):Int) != 45)) (l_k k2 (Aq (hret _ _ _ ⟨rfl,rfl,eT (.bool (((c.toNat:Nat):Int) != 45)) ?_⟩)))))))))))
   simp only [Ov,b3,b6,b7,Bool.true_and,Bool.false_and,Bool.and_true,Bool.and_false,Bool.true_or,Bool.false_or,Bool.or_true,Bool.or_false,Bool.not_true,Bool.not_false]
  have q7:=of_decide_eq_false b7
  refine l_M (.int .u8 (((c.toNat:Nat):Int))) (gY rfl b7) rfl (Aa (gY rfl b7) (Gl rfl rfl) (Aa (gY rfl b6) (Bn rfl b7 (v:=(.bool (decide (((c.toNat:Nat):Int) > 57)))) rfl) (l_v (Bt rfl b6 (v:=(.bool (decide (((c.toNat:Nat):Int) > 57)))) rfl) (Asf (.bool (decide (((c.toNat:Nat):Int) > 57))) (Cn (decide (((c.toNat:Nat):Int) > 57)) (fun b8=>?_) (fun b8=>?_))))))
  ·have q8:=of_decide_eq_true b8
   refine l_M (.int .u8 (((c.toNat:Nat):Int))) (gY rfl b8) rfl (Aa (gY rfl b8) (Dg rfl rfl) (l_v (Bt rfl b8 (v:=(.bool (((c.toNat:Nat):Int) != 45))) rfl) (Lo (.bool (((c.toNat:Nat):Int) != 45)) (l_k k2 (Aq (hret _ _ _ ⟨rfl,rfl,eT (.bool (((c.toNat:Nat):Int) != 45)) ?_⟩))))))
   simp only [Ov,b3,b6,b7,b8,Bool.true_and,Bool.false_and,Bool.and_true,Bool.and_false,Bool.true_or,Bool.false_or,Bool.or_true,Bool.or_false,Bool.not_true,Bool.not_false]
  have q8:=of_decide_eq_false b8
  refine Ap (gN rfl b8) (Ap (gN rfl b8) (l_v (Bn rfl b8 (v:=(.bool (false))) rfl) (Lo (.bool (false)) (l_k k2 (Aq (hret _ _ _ ⟨rfl,rfl,eT (.bool (false)) ?_⟩))))))
  simp only [Ov,b3,b6,b7,b8,Bool.true_and,Bool.false_and,Bool.and_true,Bool.and_false,Bool.true_or,Bool.false_or,Bool.or_true,Bool.or_false,Bool.not_true,Bool.not_false]
 have q6:=of_decide_eq_false b6
 refine Ap (gN rfl b6) (Ap (gN rfl b6) (Ap (gN rfl b6) (Ap (Jf rfl rfl rfl) (Ap (Jf rfl rfl rfl) (Ap (gN rfl b6) (l_v (Bn rfl b6 (v:=(.bool (false))) rfl) (Asf (.bool (false)) (Ap (gN rfl rfl) (Ap (gN rfl rfl) (l_v (Bn rfl rfl (v:=(.bool (false))) rfl) (Lo (.bool (false)) (l_k k2 (Aq (hret _ _ _ ⟨rfl,rfl,eT (.bool (false)) ?_⟩))))))))))))))
 simp only [Ov,b3,b6,Bool.true_and,Bool.false_and,Bool.and_true,Bool.and_false,Bool.true_or,Bool.false_or,Bool.or_true,Bool.or_false,Bool.not_true,Bool.not_false]
theorem Aks {s:ByteArray} (hs:s.size < 2 ^ 60):CallsH (CX mn X) 94 #[(.string (s))] ρ σ (rP ρ σ (.bool (Hg s))):=by
 refine Bh (n:=21) (args:=[(.string (s))]) [2] Tryd.func94 rfl rfl rfl rfl fun Q hret hnor=>w_q rfl rfl fun K1 k1=>Lo (.bool (false)) (Ary rfl rfl k1 fun K2 K3 k2 k3=>Asf (.string (s)) (l_v (Afz Bih (s:=s) rfl) (Arv (Bm (Jl) Bkq rfl rfl ⟨rfl,rfl,rfl,trivial⟩ ?_))))
 refine l_v (Iy rfl) (Asf (.bool (!(inR (((s.size:Nat):Int)) 1 14))) (Cn (!(inR (((s.size:Nat):Int)) 1 14)) (fun b4=>?_) (fun b4=>?_)))
 ·have b5:=not_eq_t b4
  have q5:=Tr.1 b5
  refine Ap (gN rfl b4) (Ap (gN rfl b4) (Ap (gN rfl b4) (l_v (Bt rfl b4 (v:=(.bool (true))) rfl) (Asf (.bool (true)) (Ap (gN rfl rfl) (Ap (gN rfl rfl) (Ap (gN rfl rfl) (l_v (Bt rfl rfl (v:=(.bool (true))) rfl) (l_k k3 (Co rfl rfl (w_q rfl rfl fun K6 k6=>Lo (.bool (false)) (l_k k6 (Aq (hret _ _ _ ⟨rfl,rfl,eT (.bool (false)) ?_⟩))))))))))))))
  simp only [Hg,Qb,b4,b5,Bool.true_and,Bool.false_and,Bool.and_true,Bool.and_false,Bool.true_or,Bool.false_or,Bool.or_true,Bool.or_false,Bool.not_true,Bool.not_false]
 have b7:=not_eq_f b4
 have q7:=Fz.1 b7
 refine l_M (.string (s)) (gY rfl b4) rfl ?_
 obtain ⟨c8,hc8⟩:=Alc (s:=s) (i:=0) (by omega)
 refine Aa (gY rfl b4) (Ace 0 c8 Bih rfl (q:=0) rfl rfl hc8) (Aa (gY rfl b4) (Da rfl rfl) (l_v (Bn rfl b4 (v:=(.bool (decide (((c8.toNat:Nat):Int) < 97)))) rfl) (Asf (.bool (decide (((c8.toNat:Nat):Int) < 97))) (Cn (decide (((c8.toNat:Nat):Int) < 97)) (fun b9=>?_) (fun b9=>?_)))))
 ·have q9:=of_decide_eq_true b9
  refine Ap (gN rfl b9) (Ap (gN rfl b9) (Ap (gN rfl b9) (l_v (Bt rfl b9 (v:=(.bool (true))) rfl) (l_k k3 (Co rfl rfl (w_q rfl rfl fun K10 k10=>Lo (.bool (false)) (l_k k10 (Aq (hret _ _ _ ⟨rfl,rfl,eT (.bool (false)) ?_⟩)))))))))
  simp only [Hg,Qb,hc8,b4,b7,b9,Bool.true_and,Bool.false_and,Bool.and_true,Bool.and_false,Bool.true_or,Bool.false_or,Bool.or_true,Bool.or_false,Bool.not_true,Bool.not_false]
 have q9:=of_decide_eq_false b9
 refine l_M (.string (s)) (gY rfl b9) rfl (Aa (gY rfl b9) (Ace 0 c8 Bih rfl (q:=0) rfl rfl hc8) (Aa (gY rfl b9) (Gl rfl rfl) (l_v (Bn rfl b9 (v:=(.bool (decide (((c8.toNat:Nat):Int) > 122)))) rfl) (l_k k3 (Asg (t:=decide (((c8.toNat:Nat):Int) > 122)) rfl (fun b12=>?_) (fun b12=>?_))))))
 ·have q12:=of_decide_eq_true b12
  refine w_q rfl rfl fun K13 k13=>Lo (.bool (false)) (l_k k13 (Aq (hret _ _ _ ⟨rfl,rfl,eT (.bool (false)) ?_⟩)))
  simp only [Hg,Qb,hc8,b4,b7,b9,b12,Bool.true_and,Bool.false_and,Bool.and_true,Bool.and_false,Bool.true_or,Bool.false_or,Bool.or_true,Bool.or_false,Bool.not_true,Bool.not_false]
 have q12:=of_decide_eq_false b12
 refine Al (k2 _ _ _ _ ?_)
 refine w_q rfl rfl fun K14 k14=>Asf (.string (s)) (Arv (Amd (s:=s) Bih Bky Bkh rfl (by omega) fun k15 cap15 cs15 rs15 fz15 R15 hc15=>?_))
 refine Alh R15 hc15 (by omega) fun ρ15 l15 r15=>Arv (Bm (Ta r15 (⟨97,Tryd.f97,[],rfl,Tryd.func97,rfl,rfl,fun mn X ρ σ v x hv=>by rw [Uq.1 hv]; exact Ahe⟩:Su (.func (.func 97) #[] #[]) (fun c:UInt8=>Ov ((c.toNat:Nat):Int)))) Tryd.func96 rfl rfl ⟨rfl,rfl,trivial⟩ ?_)
 refine l_v (Iy rfl) (Lo (.bool (!(s.data.toList.any (fun c:UInt8=>Ov ((c.toNat:Nat):Int))))) (l_k k14 (Aj (Bmi l15) (Aq (hret _ _ _ ⟨rfl,rfl,eT (.bool (!(s.data.toList.any (fun c:UInt8=>Ov ((c.toNat:Nat):Int))))) ?_⟩)))))
 rw [Akl,Bool.not_not]
 simp only [Hg,Qb,hc8,b4,b7,b9,b12,Bool.true_and,Bool.false_and,Bool.and_true,Bool.and_false,Bool.true_or,Bool.false_or,Bool.or_true,Bool.or_false,Bool.not_true,Bool.not_false]
theorem Wx {r i clock:Nat} {es:Array MapEntry} {pr:ByteArray→Bool} {s:ByteArray} (hs:Mu es pr) (hi:σ[i]? = some (r,.obj (.map es clock))) (hz:s.size < 2 ^ 60):CallsH (CX mn X) 86 #[(.map (some r)),(.string (s))] ρ σ (fun w ρ' σ'=>ρ' = ρ∧((w = .int .i64 4∧Hg s = false∧σ' = σ)∨(w = .int .i64 5∧Hg s = true∧pr s = true∧σ' = σ)∨(w = z0∧Hg s = true∧pr s = false∧∃ es' ck',Mu es' (fun k'=>k'.toList == s.toList || pr k')∧σ' = σ.set i (r,.obj (.map es' ck'))))):=by
 refine Bh (n:=15) (args:=[(.map (some r)),(.string (s))]) [4] Bmf rfl rfl rfl rfl fun Q hret hnor=>w_q rfl rfl fun K1 k1=>Lo (iV (0)) (Asa k1 fun K2 k2=>Ao (w_q rfl rfl fun K3 k3=>Asf (.string (s)) (Arv (Bm (Aks (by omega)) Tryd.func94 rfl rfl ⟨rfl,trivial⟩ ?_))))
 refine l_v (Iy rfl) (Lo (.bool (!(Hg s))) (l_k k3 (Asg (t:=!(Hg s)) rfl (fun b4=>?_) (fun b4=>?_))))
 ·have b5:=not_eq_t b4
  refine w_q rfl rfl fun K6 k6=>Lo (iV (4)) (l_k k6 (Aq (hret _ _ _ (⟨rfl,.inl ⟨rfl,by simpa using b4,rfl⟩⟩))))
 have b7:=not_eq_f b4
 refine w_q rfl rfl fun K8 k8=>Asf (.map (some r)) (Asf (.string (s)) (Arv (Xq (i:=i) (kt:=9) (et:=4) (k:=s) (pr:=pr) Tryd.underlying183 Bih zr4 hs rfl rfl hi ?_)))
 refine Lo (.bool ((pr) s)) (l_k k8 (Asg (t:=(pr) s) rfl (fun b9=>?_) (fun b9=>?_)))
 ·refine w_q rfl rfl fun K10 k10=>Lo (iV (5)) (l_k k10 (Aq (hret _ _ _ (⟨rfl,.inr (.inl ⟨rfl,by simpa using b4,b9,rfl⟩)⟩))))
 refine Al (k2 _ _ _ _ ?_)
 refine w_q rfl rfl fun K11 k11=>Asf (.map (some r)) (Asf (.string (s)) (Cx rfl (Afq (i:=i) (kt:=9) (et:=4) (k:=s) (pr:=pr) Tryd.underlying183 Bih hs b9 rfl rfl rfl hi fun es12 ck12 S12=>?_)))
 refine Arx rfl rfl k11 fun K13 k13=>Lo (iV (0)) (l_k k13 (Aq (hret _ _ _ (⟨rfl,.inr (.inr ⟨rfl,by simpa using b4,b9,_,_,S12,rfl⟩)⟩))))
theorem Mf {l:List ByteArray} {vl:Value} {most:Int} (rl:Val ρ vl l):CallsH (CX mn X) 69 #[(iV (most)),vl] ρ σ (rP ρ σ (iV (Dd l most))):=by
 refine Bh (n:=27) (args:=[(iV (most)),vl]) [4] Bme rfl rfl rfl rfl fun Q hret hnor=>w_q rfl rfl fun K1 k1=>Lo (iV (0)) (Ary rfl rfl k1 fun K2 K3 k2 k3=>Asf vl ?_)
 have g4:=Bmn rl
 refine l_v (Ci (el:=9) Bic rfl rl) (Asf (iV (most)) (l_v (Gl rfl rfl) (l_k k3 (Asg (t:=decide (((l.length:Nat):Int) > most)) rfl (fun b5=>?_) (fun b5=>?_)))))
 ·have q5:=of_decide_eq_true b5
  refine w_q rfl rfl fun K6 k6=>Lo (iV (2)) (l_k k6 (Aq (hret _ _ _ ⟨rfl,rfl,eT (iV (2)) ?_⟩)))
  rw [Dd,if_pos (by omega)]
 have q5:=of_decide_eq_false b5
 refine Al (k2 _ _ _ _ ?_)
 refine w_q rfl rfl fun K7 k7=>Arv (Oh fun k8=>?_)
 refine Lo (.map (some k8)) (Ary rfl rfl k7 fun K9 K10 k9 k10=>Asf vl ?_)
 have g11:=Bmn rl
 refine l_v (Ci (el:=9) Bic rfl rl) (Asf (iV (0)) (l_k k10 (Ao (Cc (fun mm ee dd ρ' σ'=>∃ (i:Nat) (es12_5:Array MapEntry) (ck12_5:Nat),(l.length - i) = mm∧[] = dd∧ρ = ρ'∧((k8,Res.obj (Obj.map es12_5 ck12_5)) :: σ) = σ'∧ee 14 = vl∧ee 15 = (iV (((l.length:Nat):Int)))∧ee 5 = (.map (some k8))∧ee 16 = (iV ((i:Int)))∧(i ≤ l.length)∧(∀ j,j < i→Nh l j = 0)∧Mu es12_5 (inL (l.take i))∧True) (m:=_) ⟨0,#[],0,rfl,rfl,rfl,rfl,rfl,rfl,rfl,rfl,(Nat.zero_le _),(fun j h=>absurd h (Nat.not_lt_zero _)),(Rl (fun k=>by simp [inL]) Uh),trivial⟩ ?_))))
 rintro m12 e12 _ _ _ ⟨i,es12_5,ck12_5,rfl,rfl,rfl,rfl,h12_14,h12_15,h12_5,h12_16,p12_0,p12_1,MS12_5,_⟩
 refine w_q rfl rfl fun K13 k13=>l_v (Da h12_16 h12_15) (Asa k13 fun K14 k14=>Asg (t:=decide ((i:Int) < ((l.length:Nat):Int))) rfl (fun b15=>?_) (fun b15=>?_))
 ·have q15:=of_decide_eq_true b15
  refine Al (k14 _ _ _ _ ?_)
  refine Ai fun K16 k16=>Ao (w_q rfl rfl fun K17 k17=>?_)
  obtain ⟨a19,ha19⟩:=Ed (xs:=l) (i:=i) (by omega)
  refine Arw (Ch i Bic ty9 h12_14 rl (q:=(i:Int)) h12_16 rfl ha19) fun v18 r18=>?_
  have g20:=At.slen r18
  refine l_v (Pk ty9 rfl r18) (Lo (.string (a19)) (Arx rfl rfl k17 fun K21 k21=>l_v (Ah (v:=(.map (some k8))) h12_5) (Asf (.string (a19)) (Arv (Cm (vs:=[(.map (some k8)),(.string (a19))]) (Wx (i:=0) MS12_5 rfl (by omega)) Bmf rfl rfl ⟨rfl,rfl,trivial⟩ fun w22 ρ22 σ22 hc22=>?_)))))
  obtain ⟨hr22,hc22⟩:=hc22
  replace hr22:=hr22.symm; subst hr22
  rcases hc22 with ⟨rfl,hn22,rfl⟩ | ⟨rfl,hn22,hp22,rfl⟩ | ⟨rfl,hn22,hp22,es22,ck22,S22,rfl⟩
  ·refine Lo (iV (4)) (Arx rfl rfl k21 fun K23 k23=>Asf (iV (4)) (l_v (Dg rfl rfl) (l_k k23 (Co rfl rfl (w_q rfl rfl fun K24 k24=>Asf (iV (4)) (Lo (iV (4)) (l_k k24 (Aj Bmh (Aq (hret _ _ _ ⟨rfl,rfl,eT (iV (4)) ?_⟩))))))))))
   rw [Dd,if_neg (by omega),Db p12_1 (by omega) (Ail ha19 hn22) (by omega)]
  ·refine Lo (iV (5)) (Arx rfl rfl k21 fun K25 k25=>Asf (iV (5)) (l_v (Dg rfl rfl) (l_k k25 (Co rfl rfl (w_q rfl rfl fun K26 k26=>Asf (iV (5)) (Lo (iV (5)) (l_k k26 (Aj Bmh (Aq (hret _ _ _ ⟨rfl,rfl,eT (iV (5)) ?_⟩))))))))))
   rw [Dd,if_neg (by omega),Db p12_1 (by omega) (Aim ha19 hn22 hp22) (by omega)]
  refine Lo (iV (0)) (Arx rfl rfl k21 fun K27 k27=>Asf (iV (0)) (l_v (Dg rfl rfl) (l_k k27 (Cg rfl rfl (Al (k16 _ _ _ _ ?_))))))
  refine Ag rfl rfl (l_v (Br h12_16 rfl (z:=(((i + 1):Nat):Int)) wrE) (Asf (iV ((((i + 1):Nat):Int))) (Ac ?_)))
  refine ⟨_,?_,((i + 1)),es22,ck22,rfl,rfl,rfl,rfl,h12_14,h12_15,h12_5,rfl,(by omega),(Eg p12_1 (Aik ha19 hn22 hp22)),(Rl (Tq ha19) S22),trivial⟩
  omega
 have q15:=of_decide_eq_false b15
 refine Bx (k9 _ _ _ _ ?_)
 refine w_q rfl rfl fun K28 k28=>Lo (iV (0)) (l_k k28 (Aj Bmh (Aq (hret _ _ _ ⟨rfl,rfl,eT (iV (0)) ?_⟩))))
 rw [Dd,if_neg (by omega),Fb fun j hj=>p12_1 j (by omega)]
end
section
open Go
theorem We {l:List Span} {many:Int} (h:(l.length:Int) = many):Fm l many = if l.any (fun x=>!Ef x 0 1000) then 1 else 0:=by
 rw [Fm,if_pos h]
 cases ha:l.any (fun x=>!Ef x 0 1000) with
 | false =>
  rw [Fb fun j hj=>?_]
  ·rfl
  ·rw [List.any_eq_false] at ha
   have:=ha l[j] (List.getElem_mem hj)
   simp only [Nn,List.getElem?_eq_getElem hj]
   rw [if_pos (by simpa using this)]
 | true =>
  rcases Ft (n:=l.length) (p:=fun j=>Nn l j != 0) with ⟨i,hi,hp,hlt,he⟩ | ⟨h1,_⟩
  ·have h2:Nn l i = 1:=by
    simp only [Nn,List.getElem?_eq_getElem hi] at hp ⊢
    split
    ·rename_i hh; rw [if_pos hh] at hp; simp at hp
    ·rfl
   rw [Db (i:=i) (fun j hj=>by simpa using hlt j hj) hi h2 (by omega)]; rfl
  ·rw [List.any_eq_true] at ha
   obtain ⟨x,hx,hb⟩:=ha
   obtain ⟨i,hi⟩:=List.getElem?_of_mem hx
   have:=h1 i (List.getElem?_eq_some_iff.1 hi).1
   simp only [Nn,hi] at this
   rw [if_neg (by simpa using hb)] at this
   simp at this
theorem Vp {m:Market} {i:Nat} {s:ByteArray}:inL ((m.fields.map FField.name).take i) s = true↔(Cl i (Mk m s)).isSome = true:=by
 rw [← Bool.not_eq_false,← Bool.not_eq_false,Fs]
 apply not_congr
 unfold inL
 rw [List.any_eq_false]
 constructor
 ·intro h j hj
  unfold Mk
  cases hx:m.fields[j]? with
  | none=>rfl
  | some x =>
   have:=h x.name (List.mem_of_getElem? (i:=j) (by rw [List.getElem?_take,if_pos hj,List.getElem?_map,hx]; rfl))
   simp only [beq_iff_eq] at this
   simp only [beq_eq_false_iff_ne,ne_eq]
   exact fun e=>this e.symm
 ·intro h x hx
  obtain ⟨j,hj⟩:=List.getElem?_of_mem hx
  rw [List.getElem?_take] at hj
  split at hj
  ·rename_i hlt
   rw [List.getElem?_map] at hj
   obtain ⟨y,hy,rfl⟩:=Option.map_eq_some_iff.1 hj
   have:=h j hlt
   unfold Mk at this
   rw [hy] at this
   simp only [beq_eq_false_iff_ne,ne_eq] at this
   simp only [beq_iff_eq]
   exact fun e=>this e.symm
  ·cases hj
theorem Ml {m:Market} {i:Nat} {s:ByteArray} (h:inL ((m.fields.map FField.name).take i) s = false):(Cl i (Mk m s)).isSome = false:=by
 cases hh:(Cl i (Mk m s)).isSome with
 | false=>rfl
 | true=>rw [Vp.2 hh] at h; cases h
/-- The seller before,or -1. -/
def Abg (l:List Int) (q:Nat) (la:Int):Prop:=(q = 0∧la = -1)∨∃ k,q = k + 1∧l[k]? = some la
theorem Ze {m:Market} {s:Sale} {q:Nat} {h la:Int} (hc:s.sellers[q]? = some h) (hin:inR h 0 ((m.houses.length:Int) - 1) = true) (hl:Abg s.sellers q la) (hle:h ≤ la):Gt m s q = 7:=by
 simp only [Gt,hc,hin,if_true]
 rcases hl with ⟨rfl,rfl⟩ | ⟨k,rfl,hk⟩
 ·have:=(Fz.1 hin).1; omega
 ·rw [if_pos (by omega),show k + 1 - 1 = k by omega,hk]
  simp only [hle,if_true]
theorem Xj {m:Market} {s:Sale} {q:Nat} {h la:Int} (hc:s.sellers[q]? = some h) (hin:inR h 0 ((m.houses.length:Int) - 1) = true) (hl:Abg s.sellers q la) (hle:¬ h ≤ la):Gt m s q = 0:=by
 simp only [Gt,hc,hin,if_true]
 rcases hl with ⟨rfl,rfl⟩ | ⟨k,rfl,hk⟩
 ·simp
 ·rw [if_pos (by omega),show k + 1 - 1 = k by omega,hk]
  simp only [hle,if_false]
theorem Als {l:List Int} {q:Nat} {h:Int} (hh:∀ j h,j < q→l[j]? = some h→0 ≤ h) (hq:l[q]? = some h) (h0:0 ≤ h):∀ j h,j < q + 1→l[j]? = some h→0 ≤ h:=fun j h' hj hx=>by
 rcases Nat.lt_or_ge j q with hlt | hge
 ·exact hh j h' hlt hx
 ·obtain rfl:j = q:=by omega
  rw [hq] at hx; cases hx; exact h0
def Acn (x:FField) (marks:List Span):Prop:=x.marks.length = marks.length∧∀ (i:Nat) (y:Span),x.marks[i]? = some y→Qt y
end
section
set_option maxHeartbeats 1000000
open Go
variable {mn:Bool} {X:Frame→List Frame→Ro→Own→Cy→Prop} {ρ:Ro} {σ:Own}
theorem Ahc {x:Span} {vx:Value} (rx:Val ρ vx x):CallsH (CX mn X) 93 #[vx] ρ σ (rP ρ σ (.bool (!Ef x 0 1000))):=by
 refine Bh (n:=6) (args:=[vx]) [2] Tryd.func93 rfl rfl rfl rfl fun Q hret hnor=>w_q rfl rfl fun K1 k1=>Arv (Eb (v:=vx) rfl fun k2=>?_)
 refine Bb (a:=x) rx fun ρ2 l2 r2=>Lo (.bool (false)) (Arx rfl rfl k1 fun K3 k3=>Arw (Ax Mx rfl r2) fun v4 r4=>Arv (Bm (Yc r4) Tryd.func87 rfl rfl ⟨rfl,rfl,rfl,trivial⟩ ?_))
 refine l_v (Iy rfl) (Lo (.bool (!(Ef x 0 1000))) (l_k k3 (Aj (Bmi l2) (Aq (hret _ _ _ ⟨rfl,rfl,eT (.bool (!(Ef x 0 1000))) ?_⟩)))))
 rfl
theorem Pq {l:List Span} {vl:Value} {many:Int} (rl:Val ρ vl l):CallsH (CX mn X) 78 #[vl,(iV (many))] ρ σ (rP ρ σ (iV (Fm l many))):=by
 refine Bh (n:=11) (args:=[vl,(iV (many))]) [4] Tryd.func78 rfl rfl rfl rfl fun Q hret hnor=>w_q rfl rfl fun K1 k1=>Lo (iV (0)) (Ary rfl rfl k1 fun K2 K3 k2 k3=>Asf vl ?_)
 have g4:=Bmn rl
 refine l_v (Ci (el:=27) Bis rfl rl) (Asf (iV (many)) (l_v (Dg rfl rfl) (l_k k3 (Asg (t:=((l.length:Nat):Int) != many) rfl (fun b5=>?_) (fun b5=>?_)))))
 ·have q5:=Ls b5
  refine w_q rfl rfl fun K6 k6=>Lo (iV (2)) (l_k k6 (Aq (hret _ _ _ ⟨rfl,rfl,eT (iV (2)) ?_⟩)))
  rw [Fm,if_neg q5]
 have q5:=Jh b5
 refine Al (k2 _ _ _ _ ?_)
 refine Asb rfl rfl fun K7 K8 k7 k8=>Asf vl (Arv (Bm (Tb rl (⟨93,Tryd.f93,[],rfl,Tryd.func93,rfl,rfl,fun mn X ρ σ v x hv=>Ahc hv⟩:Su (.func (.func 93) #[] #[]) (fun x:Span=>!Ef x 0 1000))) Tryd.func92 rfl rfl ⟨rfl,rfl,trivial⟩ ?_))
 refine l_k k8 (Asg (t:=l.any (fun x:Span=>!Ef x 0 1000)) rfl (fun b9=>?_) (fun b9=>?_))
 ·refine w_q rfl rfl fun K10 k10=>Lo (iV (1)) (l_k k10 (Aq (hret _ _ _ ⟨rfl,rfl,eT (iV (1)) ?_⟩)))
  rw [We (by omega),b9]; rfl
 refine Al (k7 _ _ _ _ ?_)
 refine w_q rfl rfl fun K11 k11=>Lo (iV (0)) (l_k k11 (Aq (hret _ _ _ ⟨rfl,rfl,eT (iV (0)) ?_⟩)))
 rw [We (by omega),b9]; rfl
theorem Vc {m:Market} {vm:Value} (rm:Val ρ vm m):CallsH (CX mn X) 70 #[vm] ρ σ (rP ρ σ (iV (Ew m))):=by
 refine Bh (n:=51) (args:=[vm]) [2] Tryd.func70 rfl rfl rfl rfl fun Q hret hnor=>w_q rfl rfl fun K1 k1=>Arv (Eb (v:=vm) rfl fun k2=>?_)
 refine Bb (a:=m) rm fun ρ2 l2 r2=>Lo (iV (0)) (Ary rfl rfl k1 fun K3 K4 k3 k4=>Arw (Ay Market.f_fields Bia rfl rfl Se (by decide) rfl r2) fun v5 r5=>Arw (Ax Se rfl r5) fun v6 r6=>?_)
 have g7:=Bmn r6
 refine l_v (Ci (el:=43) Big rfl r6) (l_v (Gl rfl rfl) (l_k k4 (Asg (t:=decide (((m.fields.length:Nat):Int) > 6)) rfl (fun b8=>?_) (fun b8=>?_))))
 ·have q8:=of_decide_eq_true b8
  refine w_q rfl rfl fun K9 k9=>Lo (iV (2)) (l_k k9 (Aj (Bmi l2) (Aq (hret _ _ _ ⟨rfl,rfl,eT (iV (2)) ?_⟩))))
  rw [Ew,if_pos (by omega)]
 have q8:=of_decide_eq_false b8
 refine Al (k3 _ _ _ _ ?_)
 refine w_q rfl rfl fun K10 k10=>Arv (Oh fun k11=>?_)
 refine Lo (.map (some k11)) (Ary rfl rfl k10 fun K12 K13 k12 k13=>Arw (Ay Market.f_fields Bia rfl rfl Se (by decide) rfl r2) fun v14 r14=>Arw (Ax Se rfl r14) fun v15 r15=>?_)
 have g16:=Bmn r15
 refine l_v (Ci (el:=43) Big rfl r15) (Asf (iV (0)) (l_k k13 (Ao (Cc (fun mm ee dd ρ' σ'=>∃ (i:Nat) (es17_3:Array MapEntry) (ck17_3:Nat),(m.fields.length - i) = mm∧[] = dd∧ρ2 = ρ'∧((k11,Res.obj (Obj.map es17_3 ck17_3)) :: σ) = σ'∧ee 1 = (.pointer (some ⟨k2,0,none⟩))∧ee 14 = v15∧ee 15 = (iV (((m.fields.length:Nat):Int)))∧ee 3 = (.map (some k11))∧ee 16 = (iV ((i:Int)))∧(i ≤ m.fields.length)∧(∀ j,j < i→fieldAt m j = 0)∧Mu es17_3 (inL ((m.fields.map FField.name).take i))∧True) (m:=_) ⟨0,#[],0,rfl,rfl,rfl,rfl,rfl,rfl,rfl,rfl,rfl,(Nat.zero_le _),(fun j h=>absurd h (Nat.not_lt_zero _)),(Rl (fun k=>by simp [inL]) Uh),trivial⟩ ?_))))
 rintro m17 e17 _ _ _ ⟨i,es17_3,ck17_3,rfl,rfl,rfl,rfl,h17_1,h17_14,h17_15,h17_3,h17_16,p17_0,p17_1,MS17_3,_⟩
 refine w_q rfl rfl fun K18 k18=>l_v (Da h17_16 h17_15) (Asa k18 fun K19 k19=>Asg (t:=decide ((i:Int) < ((m.fields.length:Nat):Int))) rfl (fun b20=>?_) (fun b20=>?_))
 ·have q20:=of_decide_eq_true b20
  refine Al (k19 _ _ _ _ ?_)
  refine Ai fun K21 k21=>Ao (w_q rfl rfl fun K22 k22=>?_)
  obtain ⟨a24,ha24⟩:=Ed (xs:=m.fields) (i:=i) (by omega)
  refine Arw (Ch i Big ty67 h17_14 r15 (q:=(i:Int)) h17_16 rfl ha24) fun v23 r23=>Arw (Ax ty67 rfl r23) fun v25 r25=>Arv (Ct Xu fun k26=>?_)
  refine Cx rfl (Dv (v:=v25) (a:=a24) (c:=Aah) ty67 rfl rfl r25 rfl ?_)
  refine Bb (a:=a24) r25 fun ρ27 l27 r27=>?_
  replace r2:=Bmg l27 r2
  refine Ary rfl rfl k22 fun K28 K29 k28 k29=>l_v (Ah (v:=(.map (some k11))) h17_3) (Arw (Ay FField.f_name Bij rfl rfl ty9 (by decide) rfl r27) fun v30 r30=>?_)
  have g31:=At.slen r30
  refine l_v (Pk ty9 rfl r30) (Arv (Cm (vs:=[(.map (some k11)),(.string (a24.name))]) (Wx (i:=0) MS17_3 rfl (by omega)) Bmf rfl rfl ⟨rfl,rfl,trivial⟩ fun w32 ρ32 σ32 hc32=>?_))
  obtain ⟨hr32,hc32⟩:=hc32
  replace hr32:=hr32.symm; subst hr32
  rcases hc32 with ⟨rfl,hn32,rfl⟩ | ⟨rfl,hn32,hp32,rfl⟩ | ⟨rfl,hn32,hp32,es32,ck32,S32,rfl⟩
  ·refine Lo (iV (4)) (Arx rfl rfl k29 fun K33 k33=>Asf (iV (4)) (l_v (Dg rfl rfl) (l_k k33 (Co rfl rfl (w_q rfl rfl fun K34 k34=>Asf (iV (4)) (Lo (iV (4)) (l_k k34 (Aj Bmh (Aj (Bmi (Bmm l2 l27)) (Aq (hret _ _ _ ⟨rfl,rfl,eT (iV (4)) ?_⟩)))))))))))
   have hf:fieldAt m i = 4:=by simp [fieldAt,ha24,hn32]
   rw [Ew,if_neg (by omega),Db p17_1 (by omega) hf (by omega)]
  ·refine Lo (iV (5)) (Arx rfl rfl k29 fun K35 k35=>Asf (iV (5)) (l_v (Dg rfl rfl) (l_k k35 (Co rfl rfl (w_q rfl rfl fun K36 k36=>Asf (iV (5)) (Lo (iV (5)) (l_k k36 (Aj Bmh (Aj (Bmi (Bmm l2 l27)) (Aq (hret _ _ _ ⟨rfl,rfl,eT (iV (5)) ?_⟩)))))))))))
   have hf:fieldAt m i = 5:=by simp [fieldAt,ha24,hn32,Vp.1 hp32]
   rw [Ew,if_neg (by omega),Db p17_1 (by omega) hf (by omega)]
  refine Lo (iV (0)) (Arx rfl rfl k29 fun K37 k37=>Asf (iV (0)) (l_v (Dg rfl rfl) (l_k k37 (Cg rfl rfl (Al (k28 _ _ _ _ ?_))))))
  refine Ai fun K38 k38=>Ao (w_q rfl rfl fun K39 k39=>Arw (Ay FField.f_house Bij rfl rfl ty3 (by decide) rfl r27) fun v40 r40=>?_)
  have ⟨g41a,g41b⟩:=At.rng r40
  refine l_v (Bc ty3 rfl r40) (Arw (Ay Market.f_houses Bia rfl rfl Hw (by decide) h17_1 r2) fun v42 r42=>Arw (Ax Hw rfl r42) fun v43 r43=>?_)
  have g44:=Bmn r43
  refine l_v (Ci (el:=9) Bic rfl r43) (l_v (Ou rfl rfl (z:=(((m.houses.length:Nat):Int) - 1)) wrE) (Arv (Bm (Jl) Bkq rfl rfl ⟨rfl,rfl,rfl,trivial⟩ ?_)))
  refine l_v (Iy rfl) (Lo (.bool (!(inR a24.house 0 ((((m.houses.length:Nat):Int) - 1))))) (l_k k39 (Asg (t:=!(inR a24.house 0 ((((m.houses.length:Nat):Int) - 1)))) rfl (fun b45=>?_) (fun b45=>?_))))
  ·have b46:=not_eq_t b45
   have q46:=Tr.1 b46
   refine w_q rfl rfl fun K47 k47=>Lo (iV (6)) (l_k k47 (Aj Bmh (Aj (Bmi (Bmm l2 l27)) (Aq (hret _ _ _ ⟨rfl,rfl,eT (iV (6)) ?_⟩)))))
   have hf:fieldAt m i = 6:=by simp [fieldAt,ha24,hn32,Ml hp32,b8,b20,b45,b46,q8,q20,q46]
   rw [Ew,if_neg (by omega),Db p17_1 (by omega) hf (by omega)]
  have b48:=not_eq_f b45
  have q48:=Fz.1 b48
  refine w_q rfl rfl fun K49 k49=>Arw (Ay FField.f_grows Bij rfl rfl Mx (by decide) rfl r27) fun v50 r50=>Arw (Ax Mx rfl r50) fun v51 r51=>Arv (Bm (Yc r51) Tryd.func87 rfl rfl ⟨rfl,rfl,rfl,trivial⟩ ?_)
  refine l_v (Iy rfl) (Lo (.bool (!(Ef a24.grows 0 1000000))) (l_k k49 (Asg (t:=!(Ef a24.grows 0 1000000)) rfl (fun b52=>?_) (fun b52=>?_))))
  ·have b53:=not_eq_t b52
   refine w_q rfl rfl fun K54 k54=>Lo (iV (1)) (l_k k54 (Aj Bmh (Aj (Bmi (Bmm l2 l27)) (Aq (hret _ _ _ ⟨rfl,rfl,eT (iV (1)) ?_⟩)))))
   have hf:fieldAt m i = 1:=by simp [fieldAt,ha24,hn32,Ml hp32,b8,b20,b45,b48,b52,b53,q8,q20,q48]
   rw [Ew,if_neg (by omega),Db p17_1 (by omega) hf (by omega)]
  have b55:=not_eq_f b52
  refine Al (k38 _ _ _ _ ?_)
  refine w_q rfl rfl fun K56 k56=>Arw (Ay FField.f_marks Bij rfl rfl Uo (by decide) rfl r27) fun v57 r57=>Arw (Ax Uo rfl r57) fun v58 r58=>Arw (Ay Market.f_marks Bia rfl rfl Hw (by decide) h17_1 r2) fun v59 r59=>Arw (Ax Hw rfl r59) fun v60 r60=>?_
  have g61:=Bmn r60
  refine l_v (Ci (el:=9) Bic rfl r60) (Arv (Bm (Pq r58) Tryd.func78 rfl rfl ⟨rfl,rfl,trivial⟩ ?_))
  refine Lo (iV (Fm a24.marks (((m.marks.length:Nat):Int)))) (Arx rfl rfl k56 fun K62 k62=>Asf (iV (Fm a24.marks (((m.marks.length:Nat):Int)))) (l_v (Dg rfl rfl) (l_k k62 (Asg (t:=Fm a24.marks (((m.marks.length:Nat):Int)) != 0) rfl (fun b63=>?_) (fun b63=>?_)))))
  ·have q63:=Ls b63
   refine w_q rfl rfl fun K64 k64=>Asf (iV (Fm a24.marks (((m.marks.length:Nat):Int)))) (Lo (iV (Fm a24.marks (((m.marks.length:Nat):Int)))) (l_k k64 (Aj Bmh (Aj (Bmi (Bmm l2 l27)) (Aq (hret _ _ _ ⟨rfl,rfl,eT (iV (Fm a24.marks (((m.marks.length:Nat):Int)))) ?_⟩))))))
   have hf:fieldAt m i = Fm a24.marks (((m.marks.length:Nat):Int)):=by simp [fieldAt,ha24,hn32,Ml hp32,b8,b20,b45,b48,b52,b55,b63,q8,q20,q48,q63]
   rw [Ew,if_neg (by omega),Db p17_1 (by omega) hf q63]
  have q63:=Jh b63
  refine Al (k21 _ _ _ _ ?_)
  refine Ag rfl rfl (l_v (Br h17_16 rfl (z:=(((i + 1):Nat):Int)) wrE) (Asf (iV ((((i + 1):Nat):Int))) (Bj (Bmi l27) (Ac ?_))))
  refine ⟨_,?_,((i + 1)),es32,ck32,rfl,rfl,rfl,rfl,h17_1,h17_14,h17_15,h17_3,rfl,(by omega),(Eg p17_1 (by simp [fieldAt,ha24,hn32,Ml hp32,b8,b20,b45,b48,b52,b55,b63,q8,q20,q48,q63])),(Rl (Tq (by rw [List.getElem?_map,ha24]; rfl)) S32),trivial⟩
  omega
 have q20:=of_decide_eq_false b20
 refine Bx (k12 _ _ _ _ ?_)
 refine w_q rfl rfl fun K65 k65=>Lo (iV (0)) (l_k k65 (Aj Bmh (Aj (Bmi l2) (Aq (hret _ _ _ ⟨rfl,rfl,eT (iV (0)) ?_⟩)))))
 rw [Ew,if_neg (by omega),Fb fun j hj=>p17_1 j (by omega)]
theorem Wy {m:Market} {vm:Value} (rm:Val ρ vm m):CallsH (CX mn X) 71 #[vm] ρ σ (rP ρ σ (iV (Jc m))):=by
 refine Bh (n:=51) (args:=[vm]) [2] Tryd.func71 rfl rfl rfl rfl fun Q hret hnor=>w_q rfl rfl fun K1 k1=>Arv (Eb (v:=vm) rfl fun k2=>?_)
 refine Bb (a:=m) rm fun ρ2 l2 r2=>Lo (iV (0)) (Ary rfl rfl k1 fun K3 K4 k3 k4=>Arw (Ay Market.f_sales Bia rfl rfl Qn (by decide) rfl r2) fun v5 r5=>Arw (Ax Qn rfl r5) fun v6 r6=>?_)
 have g7:=Bmn r6
 refine l_v (Ci (el:=51) Bif rfl r6) (l_v (Gl rfl rfl) (l_k k4 (Asg (t:=decide (((m.sales.length:Nat):Int) > 8)) rfl (fun b8=>?_) (fun b8=>?_))))
 ·have q8:=of_decide_eq_true b8
  refine w_q rfl rfl fun K9 k9=>Lo (iV (2)) (l_k k9 (Aj (Bmi l2) (Aq (hret _ _ _ ⟨rfl,rfl,eT (iV (2)) ?_⟩))))
  rw [Jc,if_pos (by omega)]
 have q8:=of_decide_eq_false b8
 refine Al (k3 _ _ _ _ ?_)
 refine Asb rfl rfl fun K10 K11 k10 k11=>Arw (Ay Market.f_sales Bia rfl rfl Qn (by decide) rfl r2) fun v12 r12=>Arw (Ax Qn rfl r12) fun v13 r13=>?_
 have g14:=Bmn r13
 refine l_v (Ci (el:=51) Bif rfl r13) (Asf (iV (0)) (l_k k11 (Ao (Cc (fun mm ee dd ρ' σ'=>∃ (i:Nat),(m.sales.length - i) = mm∧[] = dd∧ρ2 = ρ'∧σ = σ'∧ee 1 = (.pointer (some ⟨k2,0,none⟩))∧ee 13 = v13∧ee 14 = (iV (((m.sales.length:Nat):Int)))∧ee 15 = (iV ((i:Int)))∧(i ≤ m.sales.length)∧(∀ j,j < i→Jb m j = 0)∧True) (m:=_) ⟨0,rfl,rfl,rfl,rfl,rfl,rfl,rfl,rfl,(Nat.zero_le _),(fun j h=>absurd h (Nat.not_lt_zero _)),trivial⟩ ?_))))
 rintro m15 e15 _ _ _ ⟨i,rfl,rfl,rfl,rfl,h15_1,h15_13,h15_14,h15_15,p15_0,p15_1,_⟩
 refine w_q rfl rfl fun K16 k16=>l_v (Da h15_15 h15_14) (Asa k16 fun K17 k17=>Asg (t:=decide ((i:Int) < ((m.sales.length:Nat):Int))) rfl (fun b18=>?_) (fun b18=>?_))
 ·have q18:=of_decide_eq_true b18
  refine Al (k17 _ _ _ _ ?_)
  refine Ai fun K19 k19=>Ao (w_q rfl rfl fun K20 k20=>?_)
  obtain ⟨a22,ha22⟩:=Ed (xs:=m.sales) (i:=i) (by omega)
  refine Arw (Ch i Bif Up h15_13 r13 (q:=(i:Int)) h15_15 rfl ha22) fun v21 r21=>Arw (Ax Up rfl r21) fun v23 r23=>Arv (Ct Agb fun k24=>?_)
  refine Cx rfl (Dv (v:=v23) (a:=a22) (c:=Akd) Up rfl rfl r23 rfl ?_)
  refine Bb (a:=a22) r23 fun ρ25 l25 r25=>?_
  replace r2:=Bmg l25 r2
  refine Asa k20 fun K26 k26=>Ao (w_q rfl rfl fun K27 k27=>Arw (Ay Sale.f_grams Bin rfl rfl ty3 (by decide) rfl r25) fun v28 r28=>?_)
  have ⟨g29a,g29b⟩:=At.rng r28
  refine l_v (Bc ty3 rfl r28) (Arv (Bm (Jl) Bkq rfl rfl ⟨rfl,rfl,rfl,trivial⟩ ?_))
  refine l_v (Iy rfl) (Lo (.bool (!(inR a22.grams 0 1000000))) (l_k k27 (Asg (t:=!(inR a22.grams 0 1000000)) rfl (fun b30=>?_) (fun b30=>?_))))
  ·have b31:=not_eq_t b30
   have q31:=Tr.1 b31
   refine w_q rfl rfl fun K32 k32=>Lo (iV (1)) (l_k k32 (Aj (Bmi (Bmm l2 l25)) (Aq (hret _ _ _ ⟨rfl,rfl,eT (iV (1)) ?_⟩))))
   have hf:Jb m i = 1:=by simp [Jb,ha22,b8,b18,b30,b31,q8,q18,q31]
   rw [Jc,if_neg (by omega),Db p15_1 (by omega) hf (by omega)]
  have b33:=not_eq_f b30
  have q33:=Fz.1 b33
  refine w_q rfl rfl fun K34 k34=>Arw (Ay Sale.f_sellers Bin rfl rfl Vh (by decide) rfl r25) fun v35 r35=>Arw (Ax Vh rfl r35) fun v36 r36=>?_
  have g37:=Bmn r36
  refine l_v (Ci (el:=3) Bhy rfl r36) (l_v (Ek rfl rfl) (Lo (.bool (((a22.sellers.length:Nat):Int) == 0)) (l_k k34 (Asg (t:=((a22.sellers.length:Nat):Int) == 0) rfl (fun b38=>?_) (fun b38=>?_)))))
  ·have q38:=Jr b38
   refine w_q rfl rfl fun K39 k39=>Lo (iV (2)) (l_k k39 (Aj (Bmi (Bmm l2 l25)) (Aq (hret _ _ _ ⟨rfl,rfl,eT (iV (2)) ?_⟩))))
   have hf:Jb m i = 2:=by simp [Jb,ha22,b8,b18,b30,b33,b38,q8,q18,q33,q38]
   rw [Jc,if_neg (by omega),Db p15_1 (by omega) hf (by omega)]
  have q38:=Jq b38
  refine Al (k26 _ _ _ _ ?_)
  refine w_q rfl rfl fun K40 k40=>Lo (iV ((-1))) (Arx rfl rfl k40 fun K41 k41=>Arw (Ay Sale.f_sellers Bin rfl rfl Vh (by decide) rfl r25) fun v42 r42=>Arw (Ax Vh rfl r42) fun v43 r43=>?_)
  have g44:=Bmn r43
  refine l_v (Ci (el:=3) Bhy rfl r43) (Asf (iV (0)) (l_k k41 (Ao (Cc (fun mm ee dd ρ' σ'=>∃ (q:Nat) (la:Int),(a22.sellers.length - q) = mm∧[] = dd∧ρ25 = ρ'∧σ = σ'∧ee 1 = (.pointer (some ⟨k2,0,none⟩))∧ee 13 = v13∧ee 14 = (iV (((m.sales.length:Nat):Int)))∧ee 15 = (iV ((i:Int)))∧ee 30 = v43∧ee 31 = (iV (((a22.sellers.length:Nat):Int)))∧ee 5 = (iV (la))∧ee 32 = (iV ((q:Int)))∧(q ≤ a22.sellers.length)∧(∀ j,j < q→Gt m a22 j = 0)∧(Abg a22.sellers q la)∧(∀ j h,j < q→a22.sellers[j]? = some h→0 ≤ h)∧True) (m:=_) ⟨0,(-1),rfl,rfl,rfl,rfl,h15_1,h15_13,h15_14,h15_15,rfl,rfl,rfl,rfl,(Nat.zero_le _),(fun j h=>absurd h (Nat.not_lt_zero _)),(.inl ⟨rfl,rfl⟩),(fun j h hj=>absurd hj (Nat.not_lt_zero _)),trivial⟩ ?_))))
  rintro m45 e45 _ _ _ ⟨q,la,rfl,rfl,rfl,rfl,h45_1,h45_13,h45_14,h45_15,h45_30,h45_31,h45_5,h45_32,p45_0,p45_1,p45_2,p45_3,_⟩
  refine w_q rfl rfl fun K46 k46=>l_v (Da h45_32 h45_31) (Asa k46 fun K47 k47=>Asg (t:=decide ((q:Int) < ((a22.sellers.length:Nat):Int))) rfl (fun b48=>?_) (fun b48=>?_))
  ·have q48:=of_decide_eq_true b48
   refine Al (k47 _ _ _ _ ?_)
   refine Ai fun K49 k49=>Ao (w_q rfl rfl fun K50 k50=>?_)
   obtain ⟨a52,ha52⟩:=Ed (xs:=a22.sellers) (i:=q) (by omega)
   refine Arw (Ch q Bhy ty3 h45_30 r43 (q:=(q:Int)) h45_32 rfl ha52) fun v51 r51=>?_
   have ⟨g53a,g53b⟩:=At.rng r51
   refine l_v (Bc ty3 rfl r51) (Lo (iV (a52)) (Asa k50 fun K54 k54=>Ao (w_q rfl rfl fun K55 k55=>Asf (iV (a52)) (Arw (Ay Market.f_houses Bia rfl rfl Hw (by decide) h45_1 r2) fun v56 r56=>Arw (Ax Hw rfl r56) fun v57 r57=>?_))))
   have g58:=Bmn r57
   refine l_v (Ci (el:=9) Bic rfl r57) (l_v (Ou rfl rfl (z:=(((m.houses.length:Nat):Int) - 1)) wrE) (Arv (Bm (Jl) Bkq rfl rfl ⟨rfl,rfl,rfl,trivial⟩ ?_)))
   refine l_v (Iy rfl) (Lo (.bool (!(inR a52 0 ((((m.houses.length:Nat):Int) - 1))))) (l_k k55 (Asg (t:=!(inR a52 0 ((((m.houses.length:Nat):Int) - 1)))) rfl (fun b59=>?_) (fun b59=>?_))))
   ·have b60:=not_eq_t b59
    have q60:=Tr.1 b60
    refine w_q rfl rfl fun K61 k61=>Lo (iV (6)) (l_k k61 (Aj (Bmi (Bmm l2 l25)) (Aq (hret _ _ _ ⟨rfl,rfl,eT (iV (6)) ?_⟩))))
    have hq:Gt m a22 q = 6:=by
     simp [Gt,ha52,b8,b18,b30,b33,b38,b48,b59,b60,q8,q18,q33,q38,q48,q60]
    have hf:Jb m i = 6:=by simp only [Jb,ha22,b8,b18,b30,b33,b38,b48,b59,b60,if_true]; rw [if_neg (by omega),Db p45_1 (by omega) hq (by omega)]
    rw [Jc,if_neg (by omega),Db p15_1 (by omega) hf (by omega)]
   have b62:=not_eq_f b59
   have q62:=Fz.1 b62
   refine w_q rfl rfl fun K63 k63=>Asf (iV (a52)) (l_v (Ah (v:=(iV (la))) h45_5) (l_v (Uz rfl rfl) (Lo (.bool (decide (a52 ≤ la))) (l_k k63 (Asg (t:=decide (a52 ≤ la)) rfl (fun b64=>?_) (fun b64=>?_))))))
   ·have q64:=of_decide_eq_true b64
    refine w_q rfl rfl fun K65 k65=>Lo (iV (7)) (l_k k65 (Aj (Bmi (Bmm l2 l25)) (Aq (hret _ _ _ ⟨rfl,rfl,eT (iV (7)) ?_⟩))))
    have hq:Gt m a22 q = 7:=by
     exact Ze ha52 (Fz.2 q62) p45_2 q64
    have hf:Jb m i = 7:=by simp only [Jb,ha22,b8,b18,b30,b33,b38,b48,b59,b62,b64,if_true]; rw [if_neg (by omega),Db p45_1 (by omega) hq (by omega)]
    rw [Jc,if_neg (by omega),Db p15_1 (by omega) hf (by omega)]
   have q64:=of_decide_eq_false b64
   refine Al (k54 _ _ _ _ ?_)
   refine Ag rfl rfl (Asf (iV (a52)) (Lo (iV (a52)) (l_k k49 (Ag rfl rfl (l_v (Br h45_32 rfl (z:=(((q + 1):Nat):Int)) wrE) (Asf (iV ((((q + 1):Nat):Int))) (Ac ?_)))))))
   refine ⟨_,?_,((q + 1)),(a52),rfl,rfl,rfl,rfl,h45_1,h45_13,h45_14,h45_15,h45_30,h45_31,rfl,rfl,(by omega),(Eg p45_1 (by
 exact Xj ha52 (Fz.2 q62) p45_2 q64)),(.inr ⟨_,rfl,ha52⟩),(Als p45_3 ha52 (by omega)),trivial⟩
   omega
  have q48:=of_decide_eq_false b48
  refine Bx (k19 _ _ _ _ ?_)
  refine Ag rfl rfl (l_v (Br h45_15 rfl (z:=(((i + 1):Nat):Int)) wrE) (Asf (iV ((((i + 1):Nat):Int))) (Bj (Bmi l25) (Ac ?_))))
  refine ⟨_,?_,((i + 1)),rfl,rfl,rfl,rfl,h45_1,h45_13,h45_14,rfl,(by omega),(Eg p15_1 (by simp only [Jb,ha22,b8,b18,b30,b33,b38,b48,if_true]; rw [if_neg (by omega),Fb fun j hj=>p45_1 j (by omega)])),trivial⟩
  omega
 have q18:=of_decide_eq_false b18
 refine Bx (k10 _ _ _ _ ?_)
 refine w_q rfl rfl fun K66 k66=>Lo (iV (0)) (l_k k66 (Aj (Bmi l2) (Aq (hret _ _ _ ⟨rfl,rfl,eT (iV (0)) ?_⟩))))
 rw [Jc,if_neg (by omega),Fb fun j hj=>p15_1 j (by omega)]
theorem Js {m:Market} {vm:Value} (rm:Val ρ vm m):CallsH (CX mn X) 44 #[vm] ρ σ (rP ρ σ (iV (Cf m))):=by
 refine Bh (n:=25) (args:=[vm]) [2] Bll rfl rfl rfl rfl fun Q hret hnor=>w_q rfl rfl fun K1 k1=>Arv (Eb (v:=vm) rfl fun k2=>?_)
 refine Bb (a:=m) rm fun ρ2 l2 r2=>Lo (iV (0)) (Ary rfl rfl k1 fun K3 K4 k3 k4=>Arw (Ay Market.f_houses Bia rfl rfl Hw (by decide) rfl r2) fun v5 r5=>Arw (Ax Hw rfl r5) fun v6 r6=>Arv (Bm (Mf r6) Bme rfl rfl ⟨rfl,rfl,trivial⟩ ?_))
 refine Lo (iV (Dd m.houses 5)) (Arx rfl rfl k4 fun K7 k7=>Asf (iV (Dd m.houses 5)) (l_v (Dg rfl rfl) (l_k k7 (Asg (t:=Dd m.houses 5 != 0) rfl (fun b8=>?_) (fun b8=>?_)))))
 ·have q8:=Ls b8
  refine w_q rfl rfl fun K9 k9=>Asf (iV (Dd m.houses 5)) (Lo (iV (Dd m.houses 5)) (l_k k9 (Aj (Bmi l2) (Aq (hret _ _ _ ⟨rfl,rfl,eT (iV (Dd m.houses 5)) ?_⟩)))))
  rw [Cf,Ry q8]
 have q8:=Jh b8
 refine Al (k3 _ _ _ _ ?_)
 refine Asb rfl rfl fun K10 K11 k10 k11=>Arw (Ay Market.f_marks Bia rfl rfl Hw (by decide) rfl r2) fun v12 r12=>Arw (Ax Hw rfl r12) fun v13 r13=>Arv (Bm (Mf r13) Bme rfl rfl ⟨rfl,rfl,trivial⟩ ?_)
 refine Lo (iV (Dd m.marks 4)) (Arx rfl rfl k11 fun K14 k14=>Asf (iV (Dd m.marks 4)) (l_v (Dg rfl rfl) (l_k k14 (Asg (t:=Dd m.marks 4 != 0) rfl (fun b15=>?_) (fun b15=>?_)))))
 ·have q15:=Ls b15
  refine w_q rfl rfl fun K16 k16=>Asf (iV (Dd m.marks 4)) (Lo (iV (Dd m.marks 4)) (l_k k16 (Aj (Bmi l2) (Aq (hret _ _ _ ⟨rfl,rfl,eT (iV (Dd m.marks 4)) ?_⟩)))))
  rw [Cf,Gr q8,Ry q15]
 have q15:=Jh b15
 refine Al (k10 _ _ _ _ ?_)
 refine Asb rfl rfl fun K17 K18 k17 k18=>Arw (Ax Ln rfl r2) fun v19 r19=>Arv (Bm (Vc r19) Tryd.func70 rfl rfl ⟨rfl,trivial⟩ ?_)
 refine Lo (iV (Ew m)) (Arx rfl rfl k18 fun K20 k20=>Asf (iV (Ew m)) (l_v (Dg rfl rfl) (l_k k20 (Asg (t:=Ew m != 0) rfl (fun b21=>?_) (fun b21=>?_)))))
 ·have q21:=Ls b21
  refine w_q rfl rfl fun K22 k22=>Asf (iV (Ew m)) (Lo (iV (Ew m)) (l_k k22 (Aj (Bmi l2) (Aq (hret _ _ _ ⟨rfl,rfl,eT (iV (Ew m)) ?_⟩)))))
  rw [Cf,Gr q8,Gr q15,Ry q21]
 have q21:=Jh b21
 refine Al (k17 _ _ _ _ ?_)
 refine w_q rfl rfl fun K23 k23=>Arw (Ax Ln rfl r2) fun v24 r24=>Arv (Bm (Wy r24) Tryd.func71 rfl rfl ⟨rfl,trivial⟩ ?_)
 refine Lo (iV (Jc m)) (l_k k23 (Aj (Bmi l2) (Aq (hret _ _ _ ⟨rfl,rfl,eT (iV (Jc m)) ?_⟩))))
 rw [Cf,Gr q8,Gr q15,Gr q21]
theorem Amo {m:Market} {vm:Value} {marks:List Span} {vk:Value} (rm:Val ρ vm m) (rk:Val ρ vk marks):CallsH (CX mn X) 54 #[vm,vk] ρ σ (rP ρ σ (iV (Ee m marks))):=by
 refine Bh (n:=16) (args:=[vm,vk]) [4] Tryd.func54 rfl rfl rfl rfl fun Q hret hnor=>w_q rfl rfl fun K1 k1=>Arv (Eb (v:=vm) rfl fun k2=>?_)
 refine Bb (a:=m) rm fun ρ2 l2 r2=>?_
 replace rk:=Bmo l2 rk
 refine Lo (iV (0)) (Ary rfl rfl k1 fun K3 K4 k3 k4=>Arw (Ax Ln rfl r2) fun v5 r5=>Arv (Bm (Js r5) Bll rfl rfl ⟨rfl,trivial⟩ ?_))
 refine Lo (iV (Cf m)) (Arx rfl rfl k4 fun K6 k6=>Asf (iV (Cf m)) (l_v (Dg rfl rfl) (l_k k6 (Asg (t:=Cf m != 0) rfl (fun b7=>?_) (fun b7=>?_)))))
 ·have q7:=Ls b7
  refine w_q rfl rfl fun K8 k8=>Asf (iV (Cf m)) (Lo (iV (Cf m)) (l_k k8 (Aj (Bmi l2) (Aq (hret _ _ _ ⟨rfl,rfl,eT (iV (Cf m)) ?_⟩)))))
  rw [Ee,Ry q7]
 have q7:=Jh b7
 refine Al (k3 _ _ _ _ ?_)
 refine w_q rfl rfl fun K9 k9=>Asf vk (Arw (Ay Market.f_marks Bia rfl rfl Hw (by decide) rfl r2) fun v10 r10=>Arw (Ax Hw rfl r10) fun v11 r11=>?_)
 have g12:=Bmn r11
 refine l_v (Ci (el:=9) Bic rfl r11) (Arv (Bm (Pq rk) Tryd.func78 rfl rfl ⟨rfl,rfl,trivial⟩ ?_))
 refine Lo (iV (Fm marks (((m.marks.length:Nat):Int)))) (l_k k9 (Aj (Bmi l2) (Aq (hret _ _ _ ⟨rfl,rfl,eT (iV (Fm marks (((m.marks.length:Nat):Int)))) ?_⟩))))
 rw [Ee,Gr q7]
end
section
set_option maxHeartbeats 1000000
open Go
variable {mn:Bool} {X:Frame→List Frame→Ro→Own→Cy→Prop} {ρ:Ro} {σ:Own}
theorem Acv {marks:List Span} {vk va vb:Value} {part:Int} {fa fb:FField} (rk:Val ρ vk marks) (ra:Val ρ va fa) (rb:Val ρ vb fb) (oa:Acn fa marks) (ob:Acn fb marks) (ok:∀ (i:Nat) (y:Span),marks[i]? = some y→Qt y) (hp:0 ≤ part∧part ≤ 100):CallsH (CX mn X) 57 #[vk,va,vb,(iV (part))] ρ σ (rP ρ σ (.bool (Gm fa fb marks part))):=by
 obtain ⟨ola,_⟩:=id oa
 obtain ⟨olb,_⟩:=id ob
 refine Bh (n:=69) (args:=[vk,va,vb,(iV (part))]) [8] Tryd.func57 rfl rfl rfl rfl fun Q hret hnor=>w_q rfl rfl fun K1 k1=>Arv (Eb (v:=va) rfl fun k2=>?_)
 refine Bb (a:=fa) ra fun ρ2 l2 r2=>?_
 replace rk:=Bmo l2 rk
 replace rb:=Bmo l2 rb
 refine Arv (Eb (v:=vb) rfl fun k3=>?_)
 refine Bb (a:=fb) rb fun ρ3 l3 r3=>?_
 replace rk:=Bmo l3 rk
 replace r2:=Bmg l3 r2
 refine Lo (.bool (false)) (Ary rfl rfl k1 fun K4 K5 k4 k5=>Asf vk ?_)
 have g6:=Bmn rk
 refine l_v (Ci (el:=27) Bis rfl rk) (Asf (iV (0)) (l_k k5 (Ao (Cc (fun mm ee dd ρ' σ'=>∃ (k:Nat),(marks.length - k) = mm∧[] = dd∧ρ3 = ρ'∧σ = σ'∧ee 3 = (iV (part))∧ee 5 = (.pointer (some ⟨k2,0,none⟩))∧ee 6 = (.pointer (some ⟨k3,0,none⟩))∧ee 13 = vk∧ee 14 = (iV (((marks.length:Nat):Int)))∧ee 15 = (iV ((k:Int)))∧(k ≤ marks.length)∧(∀ j,j < k→Ho fa fb marks part j = false)∧True) (m:=_) ⟨0,rfl,rfl,rfl,rfl,rfl,rfl,rfl,rfl,rfl,rfl,(Nat.zero_le _),(fun j h=>absurd h (Nat.not_lt_zero _)),trivial⟩ ?_))))
 rintro m7 e7 _ _ _ ⟨k,rfl,rfl,rfl,rfl,h7_3,h7_5,h7_6,h7_13,h7_14,h7_15,p7_0,p7_1,_⟩
 refine w_q rfl rfl fun K8 k8=>l_v (Da h7_15 h7_14) (Asa k8 fun K9 k9=>Asg (t:=decide ((k:Int) < ((marks.length:Nat):Int))) rfl (fun b10=>?_) (fun b10=>?_))
 ·have q10:=of_decide_eq_true b10
  refine Al (k9 _ _ _ _ ?_)
  refine Ai fun K11 k11=>Ao (w_q rfl rfl fun K12 k12=>l_v (Ah (v:=(iV ((k:Int)))) h7_15) ?_)
  obtain ⟨a14,ha14⟩:=Ed (xs:=marks) (i:=k) (by omega)
  obtain ⟨o15a,o15b,o15c⟩:=ok _ _ ha14
  refine Arw (Ch k Bis Mx h7_13 rk (q:=(k:Int)) h7_15 rfl ha14) fun v13 r13=>Arw (Ax Mx rfl r13) fun v16 r16=>Arv (Ct Aak fun k17=>?_)
  refine Lo (iV ((k:Int))) (Cx rfl (Dv (v:=v16) (a:=a14) (c:=Arm) Mx rfl rfl r16 rfl ?_))
  refine Bb (a:=a14) r16 fun ρ18 l18 r18=>?_
  replace r2:=Bmg l18 r2
  replace r3:=Bmg l18 r3
  refine Asa k12 fun K19 k19=>Atd (Ash 0 Aow rfl (Ah (v:=(iV (part))) h7_3) (Asj 1 Aox rfl (Ay FField.f_marks Bij rfl rfl Uo (by decide) h7_5 r2) fun v20 r20=>Asj 2 Aoy rfl (Ax Uo rfl r20) fun v21 r21=>Ash 3 Aoz rfl (Ah (v:=(iV ((k:Int)))) rfl) ?_))
  obtain ⟨a23,ha23⟩:=Ed (xs:=fa.marks) (i:=k) (by omega)
  obtain ⟨o24a,o24b,o24c⟩:=oa.2 _ _ ha23
  refine Asj 4 Apa rfl (Ch k Bis Mx rfl r21 (q:=(k:Int)) rfl rfl ha23) fun v22 r22=>Asj 5 Amh rfl (Ay Span.f_low Bie rfl rfl ty3 (by decide) rfl r22) fun v25 r25=>?_
  have ⟨g26a,g26b⟩:=At.rng r25
  refine Ash 6 Ami rfl (Bc ty3 rfl r25) ?_
  have mm27:=Aff (p:=part) (x:=a23.low) (by omega) (by omega)
  refine Ash 7 Apb rfl (Wq rfl rfl (z:=(part * a23.low)) wrR) (Ash 8 Apc rfl (Ah (v:=(iV (part))) h7_3) (Ash 9 Apd rfl (Ou rfl rfl (z:=(100 - part)) wrE) (Asj 10 Ape rfl (Ay FField.f_marks Bij rfl rfl Uo (by decide) h7_6 r3) fun v28 r28=>Asj 11 Apf rfl (Ax Uo rfl r28) fun v29 r29=>Asi 12 Bgu rfl (Ah (v:=(iV ((k:Int)))) rfl) ?_)))
  obtain ⟨a31,ha31⟩:=Ed (xs:=fb.marks) (i:=k) (by omega)
  obtain ⟨o32a,o32b,o32c⟩:=ob.2 _ _ ha31
  refine Asn 13 Bgv rfl (Ch k Bis Mx rfl r29 (q:=(k:Int)) rfl rfl ha31) fun v30 r30=>Asn 14 Bgw rfl (Ay Span.f_low Bie rfl rfl ty3 (by decide) rfl r30) fun v33 r33=>?_
  have ⟨g34a,g34b⟩:=At.rng r33
  refine Asi 15 Bgx rfl (Bc ty3 rfl r33) ?_
  have mm35:=Aff (p:=(100 - part)) (x:=a31.low) (by omega) (by omega)
  refine Asi 16 Bgy rfl (Wq rfl rfl (z:=((100 - part) * a31.low)) wrR) (Asi 17 Bgz rfl (Br rfl rfl (z:=((part * a23.low) + ((100 - part) * a31.low))) (Bo (by rfl) (by omega) (by omega))) (Asi 18 Bha rfl (Cp (v:=(iV (((part * a23.low) + ((100 - part) * a31.low))))) rfl) (Ec rfl (k19 _ _ _ _ ?_))))
  refine Ai fun K36 k36=>Atd (Ash 0 Aow rfl (Ah (v:=(iV (part))) h7_3) (Asj 1 Aox rfl (Ay FField.f_marks Bij rfl rfl Uo (by decide) h7_5 r2) fun v37 r37=>Asj 2 Aoy rfl (Ax Uo rfl r37) fun v38 r38=>Ash 3 Aoz rfl (Ah (v:=(iV ((k:Int)))) rfl) (Asj 4 Apa rfl (Ch k Bis Mx rfl r38 (q:=(k:Int)) rfl rfl ha23) fun v39 r39=>Asj 5 Amh rfl (Ay Span.f_high Bie rfl rfl ty3 (by decide) rfl r39) fun v40 r40=>?_)))
  have ⟨g41a,g41b⟩:=At.rng r40
  refine Ash 6 Ami rfl (Bc ty3 rfl r40) ?_
  have mm42:=Aff (p:=part) (x:=a23.high) (by omega) (by omega)
  refine Ash 7 Apb rfl (Wq rfl rfl (z:=(part * a23.high)) wrR) (Ash 8 Apc rfl (Ah (v:=(iV (part))) h7_3) (Ash 9 Apd rfl (Ou rfl rfl (z:=(100 - part)) wrE) (Asj 10 Ape rfl (Ay FField.f_marks Bij rfl rfl Uo (by decide) h7_6 r3) fun v43 r43=>Asj 11 Apf rfl (Ax Uo rfl r43) fun v44 r44=>Asi 12 Bgu rfl (Ah (v:=(iV ((k:Int)))) rfl) (Asn 13 Bgv rfl (Ch k Bis Mx rfl r44 (q:=(k:Int)) rfl rfl ha31) fun v45 r45=>Asn 14 Bgw rfl (Ay Span.f_high Bie rfl rfl ty3 (by decide) rfl r45) fun v46 r46=>?_))))
  have ⟨g47a,g47b⟩:=At.rng r46
  refine Asi 15 Bgx rfl (Bc ty3 rfl r46) ?_
  have mm48:=Aff (p:=(100 - part)) (x:=a31.high) (by omega) (by omega)
  refine Asi 16 Bgy rfl (Wq rfl rfl (z:=((100 - part) * a31.high)) wrR) (Asi 17 Bgz rfl (Br rfl rfl (z:=((part * a23.high) + ((100 - part) * a31.high))) (Bo (by rfl) (by omega) (by omega))) (Asi 18 Bha rfl (Cp (v:=(iV (((part * a23.high) + ((100 - part) * a31.high))))) rfl) (Ec rfl (k36 _ _ _ _ ?_))))
  refine w_q rfl rfl fun K49 k49=>Asf (iV (((part * a23.low) + ((100 - part) * a31.low)))) (Arw (Ay Span.f_high Bie rfl rfl ty3 (by decide) rfl r18) fun v50 r50=>?_)
  have ⟨g51a,g51b⟩:=At.rng r50
  refine l_v (Bc ty3 rfl r50) ?_
  have mm52:=Aff (p:=100) (x:=a14.high) (by omega) (by omega)
  refine l_v (Wq rfl rfl (z:=(100 * a14.high)) wrR) (l_v (Gl rfl rfl) (Asf (.bool (decide (((part * a23.low) + ((100 - part) * a31.low)) > (100 * a14.high)))) (Cn (decide (((part * a23.low) + ((100 - part) * a31.low)) > (100 * a14.high))) (fun b53=>?_) (fun b53=>?_))))
  ·have q53:=of_decide_eq_true b53
   refine Ap (gN rfl b53) (Ap (gN rfl b53) (Ap (gN rfl b53) (Ap (gN rfl b53) (Ap (gN rfl b53) (l_v (Bt rfl b53 (v:=(.bool (true))) rfl) (l_k k49 (Co rfl rfl (w_q rfl rfl fun K54 k54=>Lo (.bool (false)) (l_k k54 (Aj (Bmi (Bmm (Bmm l2 l3) l18)) (Aq (hret _ _ _ ⟨rfl,rfl,eT (.bool (false)) ?_⟩))))))))))))
   have hf:Ho fa fb marks part k = true:=by simp only [Ho,ha23,ha31,ha14,Tz,b10,b53,Bool.true_and,Bool.false_and,Bool.and_true,Bool.and_false,Bool.true_or,Bool.false_or,Bool.or_true,Bool.or_false,Bool.not_true,Bool.not_false]
   rw [Yv (by omega) hf]
  have q53:=of_decide_eq_false b53
  refine l_M (iV (((part * a23.high) + ((100 - part) * a31.high)))) (gY rfl b53) rfl (Ak (gY rfl b53) (Ay Span.f_low Bie rfl rfl ty3 (by decide) rfl r18) fun v55 r55=>?_)
  have ⟨g56a,g56b⟩:=At.rng r55
  refine Aa (gY rfl b53) (Bc ty3 rfl r55) ?_
  have mm57:=Aff (p:=100) (x:=a14.low) (by omega) (by omega)
  refine Aa (gY rfl b53) (Wq rfl rfl (z:=(100 * a14.low)) wrR) (Aa (gY rfl b53) (Da rfl rfl) (l_v (Bn rfl b53 (v:=(.bool (decide (((part * a23.high) + ((100 - part) * a31.high)) < (100 * a14.low))))) rfl) (l_k k49 (Asg (t:=decide (((part * a23.high) + ((100 - part) * a31.high)) < (100 * a14.low))) rfl (fun b58=>?_) (fun b58=>?_)))))
  ·have q58:=of_decide_eq_true b58
   refine w_q rfl rfl fun K59 k59=>Lo (.bool (false)) (l_k k59 (Aj (Bmi (Bmm (Bmm l2 l3) l18)) (Aq (hret _ _ _ ⟨rfl,rfl,eT (.bool (false)) ?_⟩))))
   have hf:Ho fa fb marks part k = true:=by simp only [Ho,ha23,ha31,ha14,Tz,b10,b53,b58,Bool.true_and,Bool.false_and,Bool.and_true,Bool.and_false,Bool.true_or,Bool.false_or,Bool.or_true,Bool.or_false,Bool.not_true,Bool.not_false]
   rw [Yv (by omega) hf]
  have q58:=of_decide_eq_false b58
  refine Al (k11 _ _ _ _ ?_)
  refine Ag rfl rfl (l_v (Br h7_15 rfl (z:=(((k + 1):Nat):Int)) wrE) (Asf (iV ((((k + 1):Nat):Int))) (Bj (Bmi l18) (Ac ?_))))
  refine ⟨_,?_,((k + 1)),rfl,rfl,rfl,rfl,h7_3,h7_5,h7_6,h7_13,h7_14,rfl,(by omega),(Eg p7_1 (by simp only [Ho,ha23,ha31,ha14,Tz,b10,b53,b58,Bool.true_and,Bool.false_and,Bool.and_true,Bool.and_false,Bool.true_or,Bool.false_or,Bool.or_true,Bool.or_false,Bool.not_true,Bool.not_false])),trivial⟩
  omega
 have q10:=of_decide_eq_false b10
 refine Bx (k4 _ _ _ _ ?_)
 refine w_q rfl rfl fun K60 k60=>Lo (.bool (true)) (l_k k60 (Aj (Bmi (Bmm l2 l3)) (Aq (hret _ _ _ ⟨rfl,rfl,eT (.bool (true)) ?_⟩))))
 rw [Aij fun k hk=>p7_1 k (by omega)]
theorem Akn {m:Market} {vm:Value} {marks:List Span} {vk:Value} (rm:Val ρ vm m) (rk:Val ρ vk marks):CallsH (CX mn X) 21 #[vm,vk] ρ σ (rP ρ σ (Qx m marks)):=by
 refine Bh (n:=57) (args:=[vm,vk]) [4,5,6,7,8] Tryd.func21 rfl rfl rfl rfl fun Q hret hnor=>w_q rfl rfl fun K1 k1=>Arv (Eb (v:=vm) rfl fun k2=>?_)
 refine Bb (a:=m) rm fun ρ2 l2 r2=>?_
 replace rk:=Bmo l2 rk
 refine Lo (iV (0)) (Lo (iV (0)) (Lo (iV (0)) (Lo (.bool (false)) (Lo (iV (0)) (Ary rfl rfl k1 fun K3 K4 k3 k4=>Arw (Ax Ln rfl r2) fun v5 r5=>Asf vk (Arv (Bm (Amo r5 rk) Tryd.func54 rfl rfl ⟨rfl,rfl,trivial⟩ ?_)))))))
 refine Lo (iV (Ee m marks)) (Arx rfl rfl k4 fun K6 k6=>Asf (iV (Ee m marks)) (l_v (Dg rfl rfl) (l_k k6 (Asg (t:=Ee m marks != 0) rfl (fun b7=>?_) (fun b7=>?_)))))
 ·have q7:=Ls b7
  refine w_q rfl rfl fun K8 k8=>Asf (iV (Ee m marks)) (Lo (iV (0)) (Lo (iV (0)) (Lo (iV (0)) (Lo (.bool (false)) (Lo (iV (Ee m marks)) (l_k k8 (Aj (Bmi l2) (Aq (hret _ _ _ ⟨rfl,rfl,Eq.trans (b:=(.tuple #[(iV (0)),(iV (0)),(iV (0)),(.bool (false)),(iV (Ee m marks))])) (Mp (r:=4) (r':=5) (rs:=[6,7,8]) (v:=(iV (0))) (v':=(iV (0))) (vs:=[(iV (0)),(.bool (false)),(iV (Ee m marks))]) ⟨rfl,rfl,rfl,rfl,rfl,trivial⟩) ?_⟩)))))))))
  rw [Qx,if_neg q7]
 have q7:=Jh b7
 refine Al (k3 _ _ _ _ ?_)
 refine Asb rfl rfl fun K9 K10 k9 k10=>Arw (Ay Market.f_fields Bia rfl rfl Se (by decide) rfl r2) fun v11 r11=>Arw (Ax Se rfl r11) fun v12 r12=>?_
 have g13:=Bmn r12
 refine l_v (Ci (el:=43) Big rfl r12) (Asf (iV (0)) (l_k k10 (Ao ?_)))
 obtain ⟨ok,okm⟩:=Xw q7
 have hn6:=okm.nfields
 refine Cc (fun mm ee dd ρ' σ'=>∃ (i:Nat),(m.fields.length - i) = mm∧[] = dd∧ρ2 = ρ'∧σ = σ'∧ee 1 = vk∧ee 2 = (.pointer (some ⟨k2,0,none⟩))∧ee 22 = v12∧ee 23 = (iV (((m.fields.length:Nat):Int)))∧ee 24 = (iV ((i:Int)))∧(i ≤ m.fields.length)∧(∀ j,j < i→(kAt m marks j).isSome = false)∧True) (m:=_) ⟨0,rfl,rfl,rfl,rfl,rfl,rfl,rfl,rfl,rfl,(Nat.zero_le _),(fun j h=>absurd h (Nat.not_lt_zero _)),trivial⟩ ?_
 rintro m14 e14 _ _ _ ⟨i,rfl,rfl,rfl,rfl,h14_1,h14_2,h14_22,h14_23,h14_24,p14_0,p14_1,_⟩
 refine w_q rfl rfl fun K15 k15=>l_v (Da h14_24 h14_23) (Asa k15 fun K16 k16=>Asg (t:=decide ((i:Int) < ((m.fields.length:Nat):Int))) rfl (fun b17=>?_) (fun b17=>?_))
 ·have q17:=of_decide_eq_true b17
  refine Al (k16 _ _ _ _ ?_)
  refine Ai fun K18 k18=>Ao (w_q rfl rfl fun K19 k19=>l_v (Ah (v:=(iV ((i:Int)))) h14_24) ?_)
  obtain ⟨a21,ha21⟩:=Ed (xs:=m.fields) (i:=i) (by omega)
  refine Arw (Ch i Big ty67 h14_22 r12 (q:=(i:Int)) h14_24 rfl ha21) fun v20 r20=>Arw (Ax ty67 rfl r20) fun v22 r22=>Arv (Ct Xu fun k23=>?_)
  refine Lo (iV ((i:Int))) (Cx rfl (Dv (v:=v22) (a:=a21) (c:=Aah) ty67 rfl rfl r22 rfl ?_))
  refine Bb (a:=a21) r22 fun ρ24 l24 r24=>?_
  replace rk:=Bmo l24 rk
  replace r2:=Bmg l24 r2
  refine Arx rfl rfl k19 fun K25 k25=>Arw (Ay Market.f_fields Bia rfl rfl Se (by decide) h14_2 r2) fun v26 r26=>Arw (Ax Se rfl r26) fun v27 r27=>Asf (iV ((i:Int))) (l_v (Br rfl rfl (z:=(((i + 1):Nat):Int)) wrE) (Arw (Ack ((i + 1)) Big ty67 rfl r27 (q:=(((i + 1):Nat):Int)) rfl rfl (by omega)) fun v28 r28=>?_))
  have g29:=Bmn r28
  refine l_v (Ci (el:=43) Big rfl r28) (Asf (iV (0)) (l_k k25 (Ao (Cc (fun mm ee dd ρ' σ'=>∃ (r:Nat),((m.fields.drop (i + 1)).length - r) = mm∧[] = dd∧ρ24 = ρ'∧σ = σ'∧ee 1 = vk∧ee 2 = (.pointer (some ⟨k2,0,none⟩))∧ee 10 = (iV ((i:Int)))∧ee 11 = (.pointer (some ⟨k23,0,none⟩))∧ee 22 = v12∧ee 23 = (iV (((m.fields.length:Nat):Int)))∧ee 24 = (iV ((i:Int)))∧ee 33 = v28∧ee 34 = (iV (((((m.fields.drop ((i + 1)))).length:Nat):Int)))∧ee 35 = (iV ((r:Int)))∧(r ≤ (m.fields.drop (i + 1)).length)∧(∀ j,j < i + 1 + r→kOk m marks i j = false)∧True) (m:=_) ⟨0,rfl,rfl,rfl,rfl,h14_1,h14_2,rfl,rfl,h14_22,h14_23,h14_24,rfl,rfl,rfl,(Nat.zero_le _),(fun j h=>by simp [kOk]; omega),trivial⟩ ?_))))
  rintro m30 e30 _ _ _ ⟨r,rfl,rfl,rfl,rfl,h30_1,h30_2,h30_10,h30_11,h30_22,h30_23,h30_24,h30_33,h30_34,h30_35,p30_0,p30_1,_⟩
  refine w_q rfl rfl fun K31 k31=>l_v (Da h30_35 h30_34) (Asa k31 fun K32 k32=>Asg (t:=decide ((r:Int) < ((((m.fields.drop ((i + 1)))).length:Nat):Int))) rfl (fun b33=>?_) (fun b33=>?_))
  ·have q33:=of_decide_eq_true b33
   refine Al (k32 _ _ _ _ ?_)
   refine Ai fun K34 k34=>Ao (w_q rfl rfl fun K35 k35=>l_v (Ah (v:=(iV ((r:Int)))) h30_35) ?_)
   obtain ⟨a37,ha37⟩:=Ed (xs:=(m.fields.drop ((i + 1)))) (i:=r) (by omega)
   refine Arw (Ch r Big ty67 h30_33 r28 (q:=(r:Int)) h30_35 rfl ha37) fun v36 r36=>Arw (Ax ty67 rfl r36) fun v38 r38=>Arv (Ct Xu fun k39=>?_)
   refine Lo (iV ((r:Int))) (Cx rfl (Dv (v:=v38) (a:=a37) (c:=Aah) ty67 rfl rfl r38 rfl ?_))
   refine Bb (a:=a37) r38 fun ρ40 l40 r40=>?_
   replace rk:=Bmo l40 rk
   replace r24:=Bmg l40 r24
   refine Arx rfl rfl k35 fun K41 k41=>Lo (iV (1)) (l_k k41 (Ao (Cc (fun mm ee dd ρ' σ'=>∃ (q:Nat),(99 - q) = mm∧[] = dd∧ρ40 = ρ'∧σ = σ'∧ee 1 = vk∧ee 2 = (.pointer (some ⟨k2,0,none⟩))∧ee 10 = (iV ((i:Int)))∧ee 11 = (.pointer (some ⟨k23,0,none⟩))∧ee 12 = (iV ((r:Int)))∧ee 13 = (.pointer (some ⟨k39,0,none⟩))∧ee 22 = v12∧ee 23 = (iV (((m.fields.length:Nat):Int)))∧ee 24 = (iV ((i:Int)))∧ee 33 = v28∧ee 34 = (iV (((((m.fields.drop ((i + 1)))).length:Nat):Int)))∧ee 35 = (iV ((r:Int)))∧ee 14 = (iV ((((q + 1):Nat):Int)))∧(q ≤ 99)∧(∀ j,j < q→Rx m marks i (i + 1 + r) (j + 1) = false)∧True) (m:=_) ⟨0,rfl,rfl,rfl,rfl,h30_1,h30_2,h30_10,h30_11,rfl,rfl,h30_22,h30_23,h30_24,h30_33,h30_34,h30_35,rfl,(by omega),(fun j h=>absurd h (Nat.not_lt_zero _)),trivial⟩ ?_)))
   rintro m42 e42 _ _ _ ⟨q,rfl,rfl,rfl,rfl,h42_1,h42_2,h42_10,h42_11,h42_12,h42_13,h42_22,h42_23,h42_24,h42_33,h42_34,h42_35,h42_14,p42_0,p42_1,_⟩
   refine Asb rfl rfl fun K43 K44 k43 k44=>l_v (Ah (v:=(iV ((((q + 1):Nat):Int)))) h42_14) (l_v (Da rfl rfl) (l_k k44 (Asg (t:=decide ((((q + 1):Nat):Int) < 100)) rfl (fun b45=>?_) (fun b45=>?_))))
   ·have q45:=of_decide_eq_true b45
    refine Al (k43 _ _ _ _ ?_)
    refine Ai fun K46 k46=>Ao (w_q rfl rfl fun K47 k47=>l_v (Ah (v:=vk) h42_1) (Arw (Ax ty67 h42_11 r24) fun v48 r48=>Arw (Ax ty67 h42_13 r40) fun v49 r49=>l_v (Ah (v:=(iV ((((q + 1):Nat):Int)))) h42_14) (Arv (Bm (Acv rk r48 r49 (ok.fields _ _ ha21) (ok.fields _ _ (by rw [List.getElem?_drop] at ha37; exact ha37)) ok.marks (by omega)) Tryd.func57 rfl rfl ⟨rfl,rfl,rfl,rfl,trivial⟩ ?_))))
    refine l_k k47 (Asg (t:=Gm a21 a37 marks ((((q + 1):Nat):Int))) rfl (fun b50=>?_) (fun b50=>?_))
    ·refine w_q rfl rfl fun K51 k51=>l_v (Ah (v:=(iV ((i:Int)))) h42_10) (l_v (Ah (v:=(iV ((i:Int)))) h42_10) (l_v (Br rfl rfl (z:=(((i + 1):Nat):Int)) wrE) (l_v (Ah (v:=(iV ((r:Int)))) h42_12) (l_v (Br rfl rfl (z:=((((i + 1) + r):Nat):Int)) wrE) (l_v (Ah (v:=(iV ((((q + 1):Nat):Int)))) h42_14) (Lo (iV ((i:Int))) (Lo (iV (((((i + 1) + r):Nat):Int))) (Lo (iV ((((q + 1):Nat):Int))) (Lo (.bool (true)) (Lo (iV (0)) (l_k k51 (Aj (Bmi (Bmm (Bmm l2 l24) l40)) (Aq (hret _ _ _ ⟨rfl,rfl,Eq.trans (b:=(.tuple #[(iV ((i:Int))),(iV (((((i + 1) + r):Nat):Int))),(iV ((((q + 1):Nat):Int))),(.bool (true)),(iV (0))])) (Mp (r:=4) (r':=5) (rs:=[6,7,8]) (v:=(iV ((i:Int)))) (v':=(iV (((((i + 1) + r):Nat):Int)))) (vs:=[(iV ((((q + 1):Nat):Int))),(.bool (true)),(iV (0))]) ⟨rfl,rfl,rfl,rfl,rfl,trivial⟩) ?_⟩))))))))))))))
     have hy:=ha37
     rw [List.getElem?_drop] at hy
     have hm:Rx m marks i (i + 1 + r) (q + 1) = true:=by simp only [Rx,ha21,hy]; exact b50
     rw [Qx,if_pos q7,Aax (by omega) (List.getElem?_eq_some_iff.1 hy).1 (by omega) (by omega) p14_1 p30_1 p42_1 hm]
    refine Al (k46 _ _ _ _ ?_)
    refine Ag rfl rfl (l_v (Ah (v:=(iV ((((q + 1):Nat):Int)))) h42_14) (l_v (Br rfl rfl (z:=((((q + 1) + 1):Nat):Int)) wrE) (Lo (iV (((((q + 1) + 1):Nat):Int))) (Ac ?_))))
    refine ⟨_,?_,(q + 1),rfl,rfl,rfl,rfl,h42_1,h42_2,h42_10,h42_11,h42_12,h42_13,h42_22,h42_23,h42_24,h42_33,h42_34,h42_35,rfl,(by omega),(Eg p42_1 (by have hy:=ha37; rw [List.getElem?_drop] at hy; simp only [Rx,ha21,hy]; exact b50)),trivial⟩
    omega
   have q45:=of_decide_eq_false b45
   refine Bx (k34 _ _ _ _ ?_)
   refine Ag rfl rfl (l_v (Br h42_35 rfl (z:=(((r + 1):Nat):Int)) wrE) (Asf (iV ((((r + 1):Nat):Int))) (Bj (Bmi l40) (Ac ?_))))
   refine ⟨_,?_,((r + 1)),rfl,rfl,rfl,rfl,h42_1,h42_2,h42_10,h42_11,h42_22,h42_23,h42_24,h42_33,h42_34,rfl,(by omega),(Eg p30_1 (show kOk m marks i (i + 1 + r) = false by rw [kOk,Aip fun j hj=>p42_1 j (by omega)]; simp)),trivial⟩
   omega
  have q33:=of_decide_eq_false b33
  refine Bx (k18 _ _ _ _ ?_)
  refine Ag rfl rfl (l_v (Br h30_24 rfl (z:=(((i + 1):Nat):Int)) wrE) (Asf (iV ((((i + 1):Nat):Int))) (Bj (Bmi l24) (Ac ?_))))
  refine ⟨_,?_,((i + 1)),rfl,rfl,rfl,rfl,h30_1,h30_2,h30_22,h30_23,rfl,(by omega),(Eg p14_1 (Aib fun j hj=>p30_1 j (by simp only [List.length_drop] at *; omega))),trivial⟩
  omega
 have q17:=of_decide_eq_false b17
 refine Bx (k9 _ _ _ _ ?_)
 refine w_q rfl rfl fun K52 k52=>Lo (iV (0)) (Lo (iV (0)) (Lo (iV (0)) (Lo (.bool (false)) (Lo (iV (0)) (l_k k52 (Aj (Bmi l2) (Aq (hret _ _ _ ⟨rfl,rfl,Eq.trans (b:=(.tuple #[(iV (0)),(iV (0)),(iV (0)),(.bool (false)),(iV (0))])) (Mp (r:=4) (r':=5) (rs:=[6,7,8]) (v:=(iV (0))) (v':=(iV (0))) (vs:=[(iV (0)),(.bool (false)),(iV (0))]) ⟨rfl,rfl,rfl,rfl,rfl,trivial⟩) ?_⟩))))))))
 rw [Qx,if_pos q7,Aaw fun j hj=>p14_1 j (by omega)]
end
section
open Go
def Rp (l:Lab) (s:ByteArray) (k:Nat):Bool:=match l.tests[k]? with | some x=>x.name.toList == s.toList | none=>false
def Nk (t:FTest) (k:Nat):Int:=match t.sees[k]? with | some b=>if decide (b < 0) || decide (b > 2) then 1 else 0 | none=>0
def Hb (l:Lab) (i:Nat):Int:=match l.tests[i]? with
 | none=>0
 | some t=>if Hg t.name then (if (Cl i (Rp l t.name)).isSome then 5 else if (t.sees.length:Int) = (l.kinds.length:Int) then Hl t.sees.length (Nk t) else 2) else 4
def Jy (l:Lab):Int:=if inR l.most 0 (l.kinds.length:Int) then (if (l.tests.length:Int) > 5 then 2 else Hl l.tests.length (Hb l)) else 1
def Gh (l:Lab):Int:=orF (Dd l.kinds 4) (Jy l)
def Vy (l:Lab) (rs:List Found) (i:Nat):Int:=match rs[i]? with | some r=>if inR r.test 0 ((l.tests.length:Int) - 1) then 0 else 6 | none=>0
def Hv (l:Lab) (rs:List Found):Int:=orF (Gh l) (if (rs.length:Int) > 8 then 2 else Hl rs.length (Vy l rs))
theorem Zn {l:Lab} {i:Nat} {s:ByteArray}:inL ((l.tests.map FTest.name).take i) s = true↔(Cl i (Rp l s)).isSome = true:=by
 rw [← Bool.not_eq_false,← Bool.not_eq_false,Fs]
 apply not_congr
 unfold inL
 rw [List.any_eq_false]
 constructor
 ·intro h j hj
  unfold Rp
  cases hx:l.tests[j]? with
  | none=>rfl
  | some x =>
   have:=h x.name (List.mem_of_getElem? (i:=j) (by rw [List.getElem?_take,if_pos hj,List.getElem?_map,hx]; rfl))
   simp only [beq_iff_eq] at this
   simp only [beq_eq_false_iff_ne,ne_eq]
   exact fun e=>this e.symm
 ·intro h x hx
  obtain ⟨j,hj⟩:=List.getElem?_of_mem hx
  rw [List.getElem?_take] at hj
  split at hj
  ·rename_i hlt
   rw [List.getElem?_map] at hj
   obtain ⟨y,hy,rfl⟩:=Option.map_eq_some_iff.1 hj
   have:=h j hlt
   unfold Rp at this
   rw [hy] at this
   simp only [beq_eq_false_iff_ne,ne_eq] at this
   simp only [beq_iff_eq]
   exact fun e=>this e.symm
  ·cases hj
theorem Og {l:Lab} {i:Nat} {s:ByteArray} (h:inL ((l.tests.map FTest.name).take i) s = false):(Cl i (Rp l s)).isSome = false:=by
 cases hh:(Cl i (Rp l s)).isSome with
 | false=>rfl
 | true=>rw [Zn.2 hh] at h; cases h
end
section
set_option maxHeartbeats 1000000
open Go
theorem Aaz {mn:Bool} {X:Frame→List Frame→Ro→Own→Cy→Prop} {ρ:Ro} {σ:Own} {l:Lab} {vl:Value} (rl:Val ρ vl l):CallsH (CX mn X) 84 #[vl] ρ σ (rP ρ σ (iV (Gh l))):=by
 refine Bh (n:=66) (args:=[vl]) [2] Tryd.func84 rfl rfl rfl rfl fun Q hret hnor=>w_q rfl rfl fun K1 k1=>Arv (Eb (v:=vl) rfl fun k2=>?_)
 refine Bb (a:=l) rl fun ρ2 l2 r2=>Lo (iV (0)) (Ary rfl rfl k1 fun K3 K4 k3 k4=>Arw (Ay Lab.f_kinds Biy rfl rfl Hw (by decide) rfl r2) fun v5 r5=>Arw (Ax Hw rfl r5) fun v6 r6=>Arv (Bm (Mf r6) Bme rfl rfl ⟨rfl,rfl,trivial⟩ ?_))
 refine Lo (iV (Dd l.kinds 4)) (Arx rfl rfl k4 fun K7 k7=>Asf (iV (Dd l.kinds 4)) (l_v (Dg rfl rfl) (l_k k7 (Asg (t:=Dd l.kinds 4 != 0) rfl (fun b8=>?_) (fun b8=>?_)))))
 ·have q8:=Ls b8
  refine w_q rfl rfl fun K9 k9=>Asf (iV (Dd l.kinds 4)) (Lo (iV (Dd l.kinds 4)) (l_k k9 (Aj (Bmi l2) (Aq (hret _ _ _ ⟨rfl,rfl,eT (iV (Dd l.kinds 4)) ?_⟩)))))
  rw [Gh,Ry q8]
 have q8:=Jh b8
 refine Al (k3 _ _ _ _ ?_)
 refine Ai fun K10 k10=>Ao (w_q rfl rfl fun K11 k11=>Arw (Ay Lab.f_most Biy rfl rfl ty3 (by decide) rfl r2) fun v12 r12=>?_)
 have ⟨g13a,g13b⟩:=At.rng r12
 refine l_v (Bc ty3 rfl r12) (Arw (Ay Lab.f_kinds Biy rfl rfl Hw (by decide) rfl r2) fun v14 r14=>Arw (Ax Hw rfl r14) fun v15 r15=>?_)
 have g16:=Bmn r15
 refine l_v (Ci (el:=9) Bic rfl r15) (Arv (Bm (Jl) Bkq rfl rfl ⟨rfl,rfl,rfl,trivial⟩ ?_))
 refine l_v (Iy rfl) (Lo (.bool (!(inR l.most 0 (((l.kinds.length:Nat):Int))))) (l_k k11 (Asg (t:=!(inR l.most 0 (((l.kinds.length:Nat):Int)))) rfl (fun b17=>?_) (fun b17=>?_))))
 ·have b18:=not_eq_t b17
  have q18:=Tr.1 b18
  refine w_q rfl rfl fun K19 k19=>Lo (iV (1)) (l_k k19 (Aj (Bmi l2) (Aq (hret _ _ _ ⟨rfl,rfl,eT (iV (1)) ?_⟩))))
  have hi:inR l.most 0 (l.kinds.length:Int) = false:=Tr.2 q18
  rw [Gh,Gr q8,Jy,hi]; rfl
 have b20:=not_eq_f b17
 have q20:=Fz.1 b20
 refine w_q rfl rfl fun K21 k21=>Arw (Ay Lab.f_tests Biy rfl rfl Vi (by decide) rfl r2) fun v22 r22=>Arw (Ax Vi rfl r22) fun v23 r23=>?_
 have g24:=Bmn r23
 refine l_v (Ci (el:=108) Bjs rfl r23) (l_v (Gl rfl rfl) (Lo (.bool (decide (((l.tests.length:Nat):Int) > 5))) (l_k k21 (Asg (t:=decide (((l.tests.length:Nat):Int) > 5)) rfl (fun b25=>?_) (fun b25=>?_)))))
 ·have q25:=of_decide_eq_true b25
  refine w_q rfl rfl fun K26 k26=>Lo (iV (2)) (l_k k26 (Aj (Bmi l2) (Aq (hret _ _ _ ⟨rfl,rfl,eT (iV (2)) ?_⟩))))
  have hi:inR l.most 0 (l.kinds.length:Int) = true:=Fz.2 q20
  rw [Gh,Gr q8,Jy,hi,if_pos rfl,if_pos (by omega)]
 have q25:=of_decide_eq_false b25
 refine Al (k10 _ _ _ _ ?_)
 refine w_q rfl rfl fun K27 k27=>Arv (Oh fun k28=>?_)
 refine Lo (.map (some k28)) (Ary rfl rfl k27 fun K29 K30 k29 k30=>Arw (Ay Lab.f_tests Biy rfl rfl Vi (by decide) rfl r2) fun v31 r31=>Arw (Ax Vi rfl r31) fun v32 r32=>?_)
 have g33:=Bmn r32
 refine l_v (Ci (el:=108) Bjs rfl r32) (Asf (iV (0)) (l_k k30 (Ao (Cc (fun mm ee dd ρ' σ'=>∃ (i:Nat) (es34_4:Array MapEntry) (ck34_4:Nat),(l.tests.length - i) = mm∧[] = dd∧ρ2 = ρ'∧((k28,Res.obj (Obj.map es34_4 ck34_4)) :: σ) = σ'∧ee 1 = (.pointer (some ⟨k2,0,none⟩))∧ee 31 = v32∧ee 32 = (iV (((l.tests.length:Nat):Int)))∧ee 4 = (.map (some k28))∧ee 33 = (iV ((i:Int)))∧(i ≤ l.tests.length)∧(∀ j,j < i→Hb l j = 0)∧Mu es34_4 (inL ((l.tests.map FTest.name).take i))∧True) (m:=_) ⟨0,#[],0,rfl,rfl,rfl,rfl,rfl,rfl,rfl,rfl,rfl,(Nat.zero_le _),(fun j h=>absurd h (Nat.not_lt_zero _)),(Rl (fun k=>by simp [inL]) Uh),trivial⟩ ?_))))
 rintro m34 e34 _ _ _ ⟨i,es34_4,ck34_4,rfl,rfl,rfl,rfl,h34_1,h34_31,h34_32,h34_4,h34_33,p34_0,p34_1,MS34_4,_⟩
 refine w_q rfl rfl fun K35 k35=>l_v (Da h34_33 h34_32) (Asa k35 fun K36 k36=>Asg (t:=decide ((i:Int) < ((l.tests.length:Nat):Int))) rfl (fun b37=>?_) (fun b37=>?_))
 ·have q37:=of_decide_eq_true b37
  refine Al (k36 _ _ _ _ ?_)
  refine Ai fun K38 k38=>Ao (w_q rfl rfl fun K39 k39=>?_)
  obtain ⟨a41,ha41⟩:=Ed (xs:=l.tests) (i:=i) (by omega)
  refine Arw (Ch i Bjs Um h34_31 r32 (q:=(i:Int)) h34_33 rfl ha41) fun v40 r40=>Arw (Ax Um rfl r40) fun v42 r42=>Arv (Ct Ws fun k43=>?_)
  refine Cx rfl (Dv (v:=v42) (a:=a41) (c:=Aag) Um rfl rfl r42 rfl ?_)
  refine Bb (a:=a41) r42 fun ρ44 l44 r44=>?_
  replace r2:=Bmg l44 r2
  refine Ary rfl rfl k39 fun K45 K46 k45 k46=>l_v (Ah (v:=(.map (some k28))) h34_4) (Arw (Ay FTest.f_name Bjp rfl rfl ty9 (by decide) rfl r44) fun v47 r47=>?_)
  have g48:=At.slen r47
  refine l_v (Pk ty9 rfl r47) (Arv (Cm (vs:=[(.map (some k28)),(.string (a41.name))]) (Wx (i:=0) MS34_4 rfl (by omega)) Bmf rfl rfl ⟨rfl,rfl,trivial⟩ fun w49 ρ49 σ49 hc49=>?_))
  obtain ⟨hr49,hc49⟩:=hc49
  replace hr49:=hr49.symm; subst hr49
  rcases hc49 with ⟨rfl,hn49,rfl⟩ | ⟨rfl,hn49,hp49,rfl⟩ | ⟨rfl,hn49,hp49,es49,ck49,S49,rfl⟩
  ·refine Lo (iV (4)) (Arx rfl rfl k46 fun K50 k50=>Asf (iV (4)) (l_v (Dg rfl rfl) (l_k k50 (Co rfl rfl (w_q rfl rfl fun K51 k51=>Asf (iV (4)) (Lo (iV (4)) (l_k k51 (Aj Bmh (Aj (Bmi (Bmm l2 l44)) (Aq (hret _ _ _ ⟨rfl,rfl,eT (iV (4)) ?_⟩)))))))))))
   have hi:inR l.most 0 (l.kinds.length:Int) = true:=Fz.2 q20
   have hf:Hb l i = 4:=by
    simp [Hb,ha41,hn49,b8,b17,b20,b25,b37]
   rw [Gh,Gr q8,Jy,hi,if_pos rfl,if_neg (by omega),Db p34_1 (by omega) hf (by omega)]
  ·refine Lo (iV (5)) (Arx rfl rfl k46 fun K52 k52=>Asf (iV (5)) (l_v (Dg rfl rfl) (l_k k52 (Co rfl rfl (w_q rfl rfl fun K53 k53=>Asf (iV (5)) (Lo (iV (5)) (l_k k53 (Aj Bmh (Aj (Bmi (Bmm l2 l44)) (Aq (hret _ _ _ ⟨rfl,rfl,eT (iV (5)) ?_⟩)))))))))))
   have hi:inR l.most 0 (l.kinds.length:Int) = true:=Fz.2 q20
   have hf:Hb l i = 5:=by
    have htw:=Zn.1 hp49
    simp [Hb,ha41,hn49,htw,b8,b17,b20,b25,b37]
   rw [Gh,Gr q8,Jy,hi,if_pos rfl,if_neg (by omega),Db p34_1 (by omega) hf (by omega)]
  refine Lo (iV (0)) (Arx rfl rfl k46 fun K54 k54=>Asf (iV (0)) (l_v (Dg rfl rfl) (l_k k54 (Cg rfl rfl (Al (k45 _ _ _ _ ?_))))))
  refine Asb rfl rfl fun K55 K56 k55 k56=>Arw (Ay FTest.f_sees Bjp rfl rfl Afp (by decide) rfl r44) fun v57 r57=>Arw (Ax Afp rfl r57) fun v58 r58=>?_
  have g59:=Bmn r58
  refine l_v (Ci (el:=83) Bil rfl r58) (Arw (Ay Lab.f_kinds Biy rfl rfl Hw (by decide) h34_1 r2) fun v60 r60=>Arw (Ax Hw rfl r60) fun v61 r61=>?_)
  have g62:=Bmn r61
  refine l_v (Ci (el:=9) Bic rfl r61) (l_v (Dg rfl rfl) (l_k k56 (Asg (t:=((a41.sees.length:Nat):Int) != ((l.kinds.length:Nat):Int)) rfl (fun b63=>?_) (fun b63=>?_))))
  ·have q63:=Ls b63
   refine w_q rfl rfl fun K64 k64=>Lo (iV (2)) (l_k k64 (Aj Bmh (Aj (Bmi (Bmm l2 l44)) (Aq (hret _ _ _ ⟨rfl,rfl,eT (iV (2)) ?_⟩)))))
   have hi:inR l.most 0 (l.kinds.length:Int) = true:=Fz.2 q20
   have hf:Hb l i = 2:=by
    have htw:=Og hp49
    simp only [Hb,ha41,hn49,htw,b8,b17,b20,b25,b37,b63,if_true,Bool.false_eq_true,if_false]
    rw [if_neg (by omega)]
   rw [Gh,Gr q8,Jy,hi,if_pos rfl,if_neg (by omega),Db p34_1 (by omega) hf (by omega)]
  have q63:=Jh b63
  refine Al (k55 _ _ _ _ ?_)
  refine w_q rfl rfl fun K65 k65=>Arw (Ay FTest.f_sees Bjp rfl rfl Afp (by decide) rfl r44) fun v66 r66=>Arw (Ax Afp rfl r66) fun v67 r67=>?_
  have g68:=Bmn r67
  refine l_v (Ci (el:=83) Bil rfl r67) (Asf (iV (0)) (l_k k65 (Ao (Cc (fun mm ee dd ρ' σ'=>∃ (q:Nat),(a41.sees.length - q) = mm∧[] = dd∧ρ44 = ρ'∧((k28,Res.obj (Obj.map es49 ck49)) :: σ) = σ'∧ee 1 = (.pointer (some ⟨k2,0,none⟩))∧ee 4 = (.map (some k28))∧ee 31 = v32∧ee 32 = (iV (((l.tests.length:Nat):Int)))∧ee 33 = (iV ((i:Int)))∧ee 52 = v67∧ee 53 = (iV (((a41.sees.length:Nat):Int)))∧ee 54 = (iV ((q:Int)))∧(q ≤ a41.sees.length)∧(∀ j,j < q→Nk a41 j = 0)∧True) (m:=_) ⟨0,rfl,rfl,rfl,rfl,h34_1,h34_4,h34_31,h34_32,h34_33,rfl,rfl,rfl,(Nat.zero_le _),(fun j h=>absurd h (Nat.not_lt_zero _)),trivial⟩ ?_))))
  rintro m69 e69 _ _ _ ⟨q,rfl,rfl,rfl,rfl,h69_1,h69_4,h69_31,h69_32,h69_33,h69_52,h69_53,h69_54,p69_0,p69_1,_⟩
  refine w_q rfl rfl fun K70 k70=>l_v (Da h69_54 h69_53) (Asa k70 fun K71 k71=>Asg (t:=decide ((q:Int) < ((a41.sees.length:Nat):Int))) rfl (fun b72=>?_) (fun b72=>?_))
  ·have q72:=of_decide_eq_true b72
   refine Al (k71 _ _ _ _ ?_)
   refine Ai fun K73 k73=>Ao (w_q rfl rfl fun K74 k74=>?_)
   obtain ⟨a76,ha76⟩:=Ed (xs:=a41.sees) (i:=q) (by omega)
   refine Arw (Ch q Bil Pi h69_52 r67 (q:=(q:Int)) h69_54 rfl ha76) fun v75 r75=>?_
   have ⟨g77a,g77b⟩:=At.rng r75
   refine l_v (Bc Pi rfl r75) (Lo (iV (a76)) (Arx rfl rfl k74 fun K78 k78=>Asf (iV (a76)) (l_v (Da rfl rfl) (Asf (.bool (decide (a76 < 0))) (Cn (decide (a76 < 0)) (fun b79=>?_) (fun b79=>?_))))))
   ·have q79:=of_decide_eq_true b79
    refine Ap (gN rfl b79) (Ap (gN rfl b79) (l_v (Bt rfl b79 (v:=(.bool (true))) rfl) (l_k k78 (Co rfl rfl (w_q rfl rfl fun K80 k80=>Lo (iV (1)) (l_k k80 (Aj Bmh (Aj (Bmi (Bmm l2 l44)) (Aq (hret _ _ _ ⟨rfl,rfl,eT (iV (1)) ?_⟩))))))))))
    have hi:inR l.most 0 (l.kinds.length:Int) = true:=Fz.2 q20
    have hf:Hb l i = 1:=by
     have htw:=Og hp49
     have hq:Nk a41 q = 1:=by simp only [Nk,ha76,b8,b17,b20,b25,b37,b63,b72,b79,Bool.true_and,Bool.false_and,Bool.and_true,Bool.and_false,Bool.true_or,Bool.false_or,Bool.or_true,Bool.or_false,Bool.not_true,Bool.not_false]; rfl
     simp only [Hb,ha41,hn49,htw,b8,b17,b20,b25,b37,b63,b72,b79,if_true,Bool.false_eq_true,if_false]
     rw [if_pos (by omega),Db p69_1 (by omega) hq (by omega)]
    rw [Gh,Gr q8,Jy,hi,if_pos rfl,if_neg (by omega),Db p34_1 (by omega) hf (by omega)]
   have q79:=of_decide_eq_false b79
   refine l_M (iV (a76)) (gY rfl b79) rfl (Aa (gY rfl b79) (Gl rfl rfl) (l_v (Bn rfl b79 (v:=(.bool (decide (a76 > 2)))) rfl) (l_k k78 (Asg (t:=decide (a76 > 2)) rfl (fun b81=>?_) (fun b81=>?_)))))
   ·have q81:=of_decide_eq_true b81
    refine w_q rfl rfl fun K82 k82=>Lo (iV (1)) (l_k k82 (Aj Bmh (Aj (Bmi (Bmm l2 l44)) (Aq (hret _ _ _ ⟨rfl,rfl,eT (iV (1)) ?_⟩)))))
    have hi:inR l.most 0 (l.kinds.length:Int) = true:=Fz.2 q20
    have hf:Hb l i = 1:=by
     have htw:=Og hp49
     have hq:Nk a41 q = 1:=by simp only [Nk,ha76,b8,b17,b20,b25,b37,b63,b72,b79,b81,Bool.true_and,Bool.false_and,Bool.and_true,Bool.and_false,Bool.true_or,Bool.false_or,Bool.or_true,Bool.or_false,Bool.not_true,Bool.not_false]; rfl
     simp only [Hb,ha41,hn49,htw,b8,b17,b20,b25,b37,b63,b72,b79,b81,if_true,Bool.false_eq_true,if_false]
     rw [if_pos (by omega),Db p69_1 (by omega) hq (by omega)]
    rw [Gh,Gr q8,Jy,hi,if_pos rfl,if_neg (by omega),Db p34_1 (by omega) hf (by omega)]
   have q81:=of_decide_eq_false b81
   refine Al (k73 _ _ _ _ ?_)
   refine Ag rfl rfl (l_v (Br h69_54 rfl (z:=(((q + 1):Nat):Int)) wrE) (Asf (iV ((((q + 1):Nat):Int))) (Ac ?_)))
   refine ⟨_,?_,((q + 1)),rfl,rfl,rfl,rfl,h69_1,h69_4,h69_31,h69_32,h69_33,h69_52,h69_53,rfl,(by omega),(Eg p69_1 (by simp only [Nk,ha76,b8,b17,b20,b25,b37,b63,b72,b79,b81,Bool.true_and,Bool.false_and,Bool.and_true,Bool.and_false,Bool.true_or,Bool.false_or,Bool.or_true,Bool.or_false,Bool.not_true,Bool.not_false]; rfl)),trivial⟩
   omega
  have q72:=of_decide_eq_false b72
  refine Bx (k38 _ _ _ _ ?_)
  refine Ag rfl rfl (l_v (Br h69_33 rfl (z:=(((i + 1):Nat):Int)) wrE) (Asf (iV ((((i + 1):Nat):Int))) (Bj (Bmi l44) (Ac ?_))))
  refine ⟨_,?_,((i + 1)),es49,ck49,rfl,rfl,rfl,rfl,h69_1,h69_31,h69_32,h69_4,rfl,(by omega),(Eg p34_1 (by
 have htw:=Og hp49
 simp only [Hb,ha41,hn49,htw,b8,b17,b20,b25,b37,b63,b72,if_true,Bool.false_eq_true,if_false]
 rw [if_pos (by omega),Fb fun j hj=>p69_1 j (by omega)])),(Rl (Tq (by rw [List.getElem?_map,ha41]; rfl)) S49),trivial⟩
  omega
 have q37:=of_decide_eq_false b37
 refine Bx (k29 _ _ _ _ ?_)
 refine w_q rfl rfl fun K83 k83=>Lo (iV (0)) (l_k k83 (Aj Bmh (Aj (Bmi l2) (Aq (hret _ _ _ ⟨rfl,rfl,eT (iV (0)) ?_⟩)))))
 have hi:inR l.most 0 (l.kinds.length:Int) = true:=Fz.2 q20
 rw [Gh,Gr q8,Jy,hi,if_pos rfl,if_neg (by omega),Fb fun j hj=>p34_1 j (by omega)]
end
section
open Go
def Es (h:Int) (x:FField):Int:=if x.house = h then x.grows.high else 0
def Em (m:Market) (h:Int):Int:=(m.fields.map (Es h)).sum
theorem Zm {α:Type} {f:α→Int} {l:List α} {i:Nat} {a:α} (h:l[i]? = some a):((l.take (i + 1)).map f).sum = ((l.take i).map f).sum + f a:=by
 rw [List.take_add_one,h,List.map_append,List.sum_append]; simp
theorem Xb {h:Int} {x:FField} (h1:0 ≤ x.grows.low∧x.grows.low ≤ x.grows.high∧x.grows.high ≤ 1000000):0 ≤ Es h x∧Es h x ≤ 1000000:=by
 unfold Es; split <;> omega
/-- Whether it is settled that a tin is pure. -/
def Ig (l:List Int) (i:Nat):Bool:=match l[i]?,l[0]? with | some x,some y=>((x == 0) != (y == 0)) | _,_=>false
def Ea (l:List Int):Bool:=(Cl l.length (Ig l)).isNone
theorem Afl {l:List Int} (h:∀ j,j < l.length→Ig l j = false):Ea l = true:=by unfold Ea; rw [Ep h]; rfl
theorem Afk {l:List Int} {i:Nat} (hi:i < l.length) (h:Ig l i = true):Ea l = false:=by
 unfold Ea
 cases he:Cl l.length (Ig l) with
 | some k=>rfl
 | none =>
  have:=Fs.1 (show (Cl l.length (Ig l)).isSome = false by rw [he]; rfl) i hi
  rw [h] at this; cases this
def Cu (s k:Nat):Bool:=(s >>> k) % 2 == 1
theorem Apl {p q:Int} (h:(p == q) = false):p ≠ q:=fun e=>by subst e; simp at h
theorem Apn {s i:Nat} (h:((((s >>> i) % 2:Nat):Int) == 1) = true):Cu s i = true:=by
 have h1:(((s >>> i) % 2:Nat):Int) = 1:=eq_of_beq h
 have h2:(s >>> i) % 2 = 1:=by omega
 simp [Cu,h2]
theorem Apm {s i:Nat} (h:((((s >>> i) % 2:Nat):Int) == 1) = false):Cu s i = false:=by
 have h1:(((s >>> i) % 2:Nat):Int) ≠ 1:=Apl h
 have h2:(s >>> i) % 2 ≠ 1:=by omega
 simp [Cu,h2]
/-- How many bits of eight. -/
def De (s:Nat):Nat:=((List.range 8).map fun k=>(s >>> k) % 2).sum
def Ajd (t:FTest) (s k:Nat):Bool:=Cu s k && (match t.sees[k]? with | some b=>b != 2 | none=>false)
def Ajh (t:FTest) (s k:Nat):Bool:=Cu s k && (match t.sees[k]? with | some b=>b == 1 | none=>false)
def Aen (t:FTest) (s:Nat) (found:Bool):Bool:=if found then t.errs || (List.range t.sees.length).any (Ajd t s) else !(List.range t.sees.length).any (Ajh t s)
def Ada (l:Lab) (s:Nat):Bool:=decide ((De s:Int) ≤ l.most)
def Hr (l:Lab):List Nat:=(List.range (1 <<< l.kinds.length)).filter (Ada l)
def Bw (l:List Nat):List Int:=l.map Int.ofNat
/-- What a result leaves. -/
def Px (l:Lab) (r:Found) (s:Nat):Bool:=match l.tests[r.test.toNat]? with | some t=>Aen t s r.found | none=>false
def Au (l:Lab) (sets:List Nat) (r:Found):List Nat:=sets.filter (Px l r)
def Ba (l:Lab) (rs:List Found):List Nat:=rs.foldl (Au l) (Hr l)
theorem Fc {l:List Nat}:(Bw l).length = l.length:=by simp [Bw]
theorem Ts {l:List Nat} {i:Nat} {z:Int} (h:(Bw l)[i]? = some z):∃ a,l[i]? = some a∧z = (a:Int):=by
 unfold Bw at h
 rw [List.getElem?_map] at h
 obtain ⟨a,ha,rfl⟩:=Option.map_eq_some_iff.1 h
 exact ⟨a,ha,rfl⟩
theorem Yz {l:Lab} {rs:List Found} {i:Nat} {r:Found} (h:rs[i]? = some r):Ba l (rs.take (i + 1)) = Au l (Ba l (rs.take i)) r:=by
 unfold Ba
 rw [List.take_add_one,h,List.foldl_append]; rfl
/-- A valid lab,told without codes. -/
structure LabOk (l:Lab):Prop where
 kinds:Dd l.kinds 4 = 0
 most:0 ≤ l.most∧l.most ≤ (l.kinds.length:Int)
 ntests:l.tests.length ≤ 5
 test:∀ (i:Nat) (t:FTest),l.tests[i]? = some t→Hg t.name = true∧t.sees.length = l.kinds.length
theorem Ll {l:Lab} (h:Gh l = 0):LabOk l:=by
 unfold Gh at h
 rw [Jx] at h
 obtain ⟨h1,h2⟩:=h
 unfold Jy at h2
 split at h2
 ·rename_i hin
  split at h2
  ·cases h2
  ·rename_i hn
   rw [Fx] at h2
   refine ⟨h1,Fz.1 hin,by omega,fun i t ht=>?_⟩
   have h3:=h2 i (List.getElem?_eq_some_iff.1 ht).1
   simp only [Hb,ht] at h3
   split at h3
   ·rename_i ha
    split at h3
    ·cases h3
    ·split at h3
     ·rename_i hb; exact ⟨ha,by omega⟩
     ·cases h3
   ·cases h3
 ·cases h2
theorem LabOk.n4 {l:Lab} (h:LabOk l):l.kinds.length ≤ 4:=by have:=Ua h.kinds; omega
theorem Rn {k:Nat} (h:k ≤ 4):1 ≤ 1 <<< k∧1 <<< k ≤ 16:=by
 rcases (by omega:k = 0∨k = 1∨k = 2∨k = 3∨k = 4) with rfl | rfl | rfl | rfl | rfl <;> decide
theorem Qu {l:Lab}:∀ (rs:List Found) (s:List Nat),(rs.foldl (Au l) s).Sublist s
 | [],s=>List.Sublist.refl s
 | r :: rs,s=>(Qu rs (Au l s r)).trans (List.filter_sublist ..)
theorem Qg {l:Lab} (ok:LabOk l) {rs:List Found}:(Ba l rs).length ≤ 16∧∀ a ∈ Ba l rs,a < 16:=by
 have h1:(Ba l rs).Sublist (Hr l):=Qu rs _
 have h2:(Hr l).Sublist (List.range (1 <<< l.kinds.length)):=List.filter_sublist ..
 have h3:=h1.trans h2
 have h4:=(Rn ok.n4).2
 refine ⟨by have:=h3.length_le; rw [List.length_range] at this; omega,fun a ha=>?_⟩
 have:=List.mem_range.1 (h3.subset ha)
 omega
def ResOk (l:Lab) (rs:List Found):Prop:=∀ (i:Nat) (r:Found),rs[i]? = some r→0 ≤ r.test∧r.test < (l.tests.length:Int)
theorem Ank {l:Lab} {rs:List Found} (h:Hv l rs = 0):LabOk l∧ResOk l rs∧rs.length ≤ 8:=by
 unfold Hv at h
 rw [Jx] at h
 obtain ⟨h1,h2⟩:=h
 split at h2
 ·cases h2
 ·rename_i hn
  rw [Fx] at h2
  refine ⟨Ll h1,fun i r hr=>?_,by omega⟩
  have h3:=h2 i (List.getElem?_eq_some_iff.1 hr).1
  simp only [Vy,hr] at h3
  split at h3
  ·rename_i hin; have:=Fz.1 hin; omega
  ·cases h3
theorem ResOk.take {l:Lab} {rs:List Found} (h:ResOk l rs) (n:Nat):ResOk l (rs.take n):=fun i r hr=>by
 rw [List.getElem?_take] at hr
 split at hr
 ·exact h i r hr
 ·cases hr
def Cw (l:Lab) (rs:List Found):Int:=orF (Hv l rs) (if ((Bw (Ba l rs)).length:Int) = 0 then 9 else 0)
theorem Yf {l:Lab} {rs:List Found} (h:Cw l rs = 0):Hv l rs = 0:=by unfold Cw at h; rw [Jx] at h; exact h.1
def Iz (sets:List Nat) (k:Nat):Nat:=(sets.map fun s=>(s >>> k) % 2).sum
def Po (sets:List Nat) (k:Nat):Int:=if Iz sets k = 0 then 2 else if Iz sets k = sets.length then 1 else 0
def Sf (l:Lab) (rs:List Found):List Int:=if Cw l rs = 0 then (List.range l.kinds.length).map (Po (Ba l rs)) else []
theorem Nj {f:Nat→Int} {i:Nat}:(List.range (i + 1)).map f = (List.range i).map f ++ [f i]:=by
 rw [List.range_succ,List.map_append]; rfl
theorem Nl {p q:Nat} (h:p < 2 ^ 63):p >>> q < 2 ^ 63:=Nat.lt_of_le_of_lt (Nat.shiftRight_le p q) h
def Gw (set i:Nat):Bool:=(((set >>> i) &&& 1:Nat):Int) == 1
/-- The members of a set that is told by bits. -/
def Av (s:Nat):List Nat:=(List.range 16).filter (Cu s)
def Bf (l:List Nat):Nat:=l.foldl (fun a x=>a ||| 1 <<< x) 0
theorem Abi (l:List Nat) (a k:Nat):(l.foldl (fun a x=>a ||| 1 <<< x) a).testBit k = (a.testBit k || l.contains k):=by
 induction l generalizing a with
 | nil=>simp
 | cons x l ih =>
  simp only [List.foldl_cons,ih,Nat.testBit_or,List.contains_cons]
  have:(1 <<< x).testBit k = (k == x):=by
   rw [Nat.one_shiftLeft,Nat.testBit_two_pow]
   by_cases h:x = k
   ·simp [h]
   ·simp [h,Ne.symm h]
  rw [this,Bool.or_assoc]
theorem Ng (l:List Nat) (k:Nat):(Bf l).testBit k = l.contains k:=by
 unfold Bf; rw [Abi]; simp
theorem Ez (s k:Nat):Cu s k = s.testBit k:=by
 unfold Cu Nat.testBit
 rw [Nat.one_and_eq_mod_two]
 rcases Nat.mod_two_eq_zero_or_one (s >>> k) with h | h <;> simp [h]
theorem Sl {l:List Nat} {n:Nat} (h:∀ a ∈ l,a < n):Bf l < 2 ^ n:=by
 refine Nat.lt_pow_two_of_testBit _ fun i hi=>?_
 rw [Ng]
 simp only [List.contains_eq_mem,decide_eq_false_iff_not]
 exact fun hm=>absurd (h i hm) (by omega)
theorem Lz {s a:Nat}:a ∈ Av s↔a < 16∧s.testBit a = true:=by
 simp [Av,Ez]
theorem Vo (s:Nat):(Av s).Sublist (List.range 16):=List.filter_sublist ..
theorem Pt {s a:Nat} (h:a ∈ Av s):a < 16:=(Lz.1 h).1
theorem Tl {l:List Nat} (h:l.Sublist (List.range 16)):Av (Bf l) = l:=by
 have h1:Av (Bf l) = (List.range 16).filter (fun a=>l.contains a):=by
  unfold Av
  congr 1
  funext a
  rw [Ez,Ng]
 rw [h1]
 have hnd:(List.range 16).Nodup:=List.nodup_range
 clear h1
 revert h hnd
 generalize List.range 16 = r
 intro h hnd
 induction h with
 | slnil=>rfl
 | cons a h ih =>
  rename_i l1 l2
  rw [List.nodup_cons] at hnd
  have ha:¬ a ∈ l1:=fun hm=>hnd.1 (h.subset hm)
  rw [List.filter_cons_of_neg (by simpa using ha)]
  exact ih hnd.2
 | cons_cons a h ih =>
  rename_i l1 l2
  rw [List.nodup_cons] at hnd
  rw [List.filter_cons_of_pos (by simp)]
  have h2:l2.filter (fun x=>(a :: l1).contains x) = l2.filter (fun x=>l1.contains x):=by
   apply List.filter_congr
   intro x hx
   have hxa:x ≠ a:=fun e=>hnd.1 (e ▸ hx)
   simp [hxa]
  rw [h2,ih hnd.2]
theorem Abh {s:Nat} (h:s < 65536):Bf (Av s) = s:=by
 apply Nat.eq_of_testBit_eq
 intro i
 rw [Ng]
 by_cases hi:i < 16
 ·cases ht:s.testBit i with
  | true=>simp [Lz,hi,ht]
  | false=>simp [Lz,ht]
 ·have:s.testBit i = false:=Nat.testBit_lt_two_pow (Nat.lt_of_lt_of_le h (by show 2 ^ 16 ≤ 2 ^ i; exact Nat.pow_le_pow_right (by omega) (by omega)))
  rw [this]
  simp only [List.contains_eq_mem,decide_eq_false_iff_not]
  exact fun hm=>hi (Pt hm)
end
end Go.Proofs.YtphgjjmlnkgghaaDoor
