/- Part 5 of what all laws of layer 8 need: a logic of programs that start goroutines, and what the functions yield. -/
import Derived.Test.YtoefdnbaklajeaaDoorB4
import Derived.Carry
import Derived.ChangeSame
import Derived.ChangeVars
import Derived.Conc.Holds
import Derived.Conc.LeavingOf
import Derived.RowKit
import Derived.SevenTiedAt
import Derived.Stop.Joined
import Derived.Test.YtoefdnbaklajeaaDoorCards
import Derived.Test.YtoefdnbaklajeaaDoorTie
set_option linter.unusedVariables false
set_option linter.unusedSimpArgs false
namespace Go.Proofs.YtoefdnbaklajeaaDoor
open Go Go.WideShapes Go.ChangeShapes Go.RowKit Go.Conc
section
variable {H:Type} {enc:TypeId × Value→H} {W:World} {r:Reach} {base t:Nat} {v:Value} {d:DataW H} {p:List MemPlace}
set_option maxRecDepth 100000 in
theorem arg_struct {α:Type} [Dat α] {fs:Array Field} (hd:Apq α t) (ha:Dat.agg α = true) (ht:Tryd.prog.underlying t = some (.struct fs)) (hv:Value.okWide Tryd.prog W r base t v) (h:DataW.Trod enc Tryd.prog W 0 (fun _=>true) true t v d p) (hw:∀ n ∈ d.weights Tryd.prog t,n ≤ reachBytes):∃ a:α,Val (roW W) v a:=by
  obtain ⟨cs,rfl,_⟩:=okWide_struct ht hv
  obtain ⟨fuel,hf⟩:=h
  obtain ⟨a,h1⟩:=hd.2 H enc W fuel cs.toList (d,p) hf hw
  refine ⟨a,_,h1,?_⟩
  rw [ha]
  show _ = Value.agg cs.toList.toArray
  simp
set_option maxRecDepth 100000 in
theorem arg_slice {α:Type} [Dat α] {el:TypeId} (hd:Apq (List α) t) (ht:Tryd.prog.underlying t = some (.slice el)) (hv:Value.okWide Tryd.prog W r base t v) (h:DataW.Trod enc Tryd.prog W 0 (fun _=>true) true t v d p) (hw:∀ n ∈ d.weights Tryd.prog t,n ≤ reachBytes):∃ a:List α,Val (roW W) v a:=by
  obtain ⟨a,len,cap,rfl⟩:=okWide_slice ht hv
  obtain ⟨fuel,hf⟩:=h
  obtain ⟨xs,h1⟩:=hd.2 H enc W fuel [.slice a len cap] (d,p) hf hw
  exact ⟨xs,_,h1,rfl⟩
end
def laidL:List (String × DataW Unit):=[("crocus/fake.can",Rows.laid_crocus_fake_can),("crocus/fake.over",Rows.laid_crocus_fake_over)]
theorem Zt {P:Program} {W:World} {n:String} {g:Nat} {cs:Array Value} (hg:P.globalNamed n = some g) (h:W.var? P n = some cs):∃ t fz,W.heap[g]? = some (.cells cs t fz):=by
  simp only [World.var?,hg,Option.bind_some] at h
  split at h
  · rename_i cs' t fz hh
    cases h
    exact ⟨t,fz,hh⟩
  · cases h
theorem gOver:Tryd.prog.globalNamed "crocus/fake.over" = some 0:=by kernel_rfl
theorem gCan:Tryd.prog.globalNamed "crocus/fake.can" = some 1:=by kernel_rfl
theorem tOver:(Tryd.prog.globals[0]?).map (·.type) = some 120:=by kernel_rfl
theorem tCan:(Tryd.prog.globals[1]?).map (·.type) = some 179:=by kernel_rfl
set_option maxRecDepth 100000 in
theorem Xd {W:World} (h:laidMetH Tryd.prog laidL W):Glob (roW W):=by
  have h':laidMet Tryd.prog [("crocus/fake.over",Rows.laid_crocus_fake_over)] W∧handlesMet Tryd.prog [("crocus/fake.can",Rows.laid_crocus_fake_can)] W:=h
  refine ⟨?_,?_⟩
  · obtain ⟨ps,⟨g,t,cs,fuel,p,q,hg,ht,hv,hd,_,_⟩,_,_⟩:=h'.1
    obtain rfl:=Option.some.inj (gOver.symm.trans hg)
    obtain rfl:=Option.some.inj (tOver.symm.trans ht)
    obtain ⟨t',fz,hh⟩:=Zt hg hv
    obtain ⟨xs,n,_,h1,hcl,hl,hf⟩:=DataW.trod_struct Tryd.underlying120 hd
    have e1:xs.map (·.1) = [.lit (.int .i64 0),.lit (.int .i64 0)]:=by
      have:=congrArg Prod.fst h1
      simp only [Rows.laid_crocus_fake_over,DataW.agg.injEq] at this
      exact this.symm
    rw [show Tryd.prog.cellsOf 120 = 2 from by kernel_rfl] at hcl
    obtain ⟨a,b,hab⟩:∃ a b,cs.toList = [a,b]:=by
      match hm:cs.toList,hcl with
      | [a,b],_=>exact ⟨a,b,rfl⟩
    have f0:DataW.trod (fun _=>()) Tryd.prog W 0 (fun _=>true) false n 110 ((cs.toList.drop 0).take (Tryd.prog.cellsOf 110)) = xs[0]?:=hf 0 _ rfl
    have f1:DataW.trod (fun _=>()) Tryd.prog W 0 (fun _=>true) false n 3 ((cs.toList.drop 1).take (Tryd.prog.cellsOf 3)) = xs[1]?:=hf 1 _ rfl
    obtain ⟨x0,x1,hx⟩:∃ x0 x1,xs = [x0,x1]:=by
      have:xs.length = 2:=hl
      match hm:xs,this with
      | [a,b],_=>exact ⟨a,b,rfl⟩
    subst hx
    rw [hab] at f0 f1
    rw [show Tryd.prog.cellsOf 110 = 1 from by kernel_rfl] at f0
    rw [show Tryd.prog.cellsOf 3 = 1 from by kernel_rfl] at f1
    simp only [List.getElem?_cons_zero,List.getElem?_cons_succ,List.drop_zero,List.drop_succ_cons,List.take_succ_cons,List.take_zero] at f0 f1
    obtain ⟨n0,c0,d0,_⟩:=DataW.trod_int Tryd.underlying110 f0
    obtain ⟨n1,c1,d1,_⟩:=DataW.trod_int Tryd.underlying3 f1
    subst d0 d1
    simp only [List.map_cons,List.map_nil,List.cons.injEq,DataW.lit.injEq,Lit.int.injEq,true_and,and_true] at e1
    obtain ⟨rfl,rfl⟩:=e1
    simp only [List.cons.injEq,and_true] at c0 c1
    subst c0 c1
    have hcs:cs = #[.int .i64 0,.int .i64 0]:=by apply Array.ext'; exact hab
    rw [hcs] at hh
    exact ⟨t',fz,Vs hh⟩
  · obtain ⟨g,t,cs,fuel,p,hg,ht,hv,hd⟩:=h.funcs (n:= "crocus/fake.can") (d:=.agg [.iface "func" (.lit (.string [40,99,114,111,99,117,115,47,102,97,107,101,46,112,114,111,98,101,41,46,109,105,115,115,101,115])),.iface "func" (.lit (.string [40,99,114,111,99,117,115,47,102,97,107,101,46,112,114,111,98,101,41,46,102,105,110,100,115]))]) (List.mem_cons_self ..)
    obtain rfl:=Option.some.inj (gCan.symm.trans hg)
    obtain rfl:=Option.some.inj (tCan.symm.trans ht)
    obtain ⟨t',fz,hh⟩:=Zt hg hv
    obtain ⟨xs,m,_,h1,hcl,hl,hf⟩:=DataW.trod_array Tryd.underlying179 hd
    have e1:xs.map (·.1) = [.held [40,99,114,111,99,117,115,47,102,97,107,101,46,112,114,111,98,101,41,46,109,105,115,115,101,115],.held [40,99,114,111,99,117,115,47,102,97,107,101,46,112,114,111,98,101,41,46,102,105,110,100,115]]:=by
      have:=congrArg Prod.fst h1
      simp only [DataW.funcsOut,DataW.funcsOutAll] at this
      have h3:=(DataW.agg.inj this).symm
      simpa using h3
    rw [show Tryd.prog.cellsOf 179 = 2 from by kernel_rfl] at hcl
    obtain ⟨a,b,hab⟩:∃ a b,cs.toList = [a,b]:=by
      match hm:cs.toList,hcl with
      | [a,b],_=>exact ⟨a,b,rfl⟩
    have f0:=hf 0 (by decide)
    have f1:=hf 1 (by decide)
    obtain ⟨x0,x1,hx⟩:∃ x0 x1,xs = [x0,x1]:=by
      match hm:xs,hl with
      | [a,b],_=>exact ⟨a,b,rfl⟩
    subst hx
    rw [hab,show Tryd.prog.cellsOf 178 = 1 from by kernel_rfl] at f0 f1
    simp only [Nat.zero_mul,Nat.one_mul,List.getElem?_cons_zero,List.getElem?_cons_succ,List.drop_zero,List.drop_succ_cons,List.take_succ_cons,List.take_zero] at f0 f1
    simp only [List.map_cons,List.map_nil,List.cons.injEq,and_true] at e1
    obtain ⟨d0,q0⟩:=x0
    obtain ⟨d1,q1⟩:=x1
    obtain ⟨e0,e1⟩:=e1
    simp only at e0 e1
    subst e0 e1
    obtain rfl:=func_of_trod (f0:=153) Tryd.underlying178 (by kernel_rfl) f0
    obtain rfl:=func_of_trod (f0:=151) Tryd.underlying178 (by kernel_rfl) f1
    have hcs:cs = #[.func (.func 153) #[] #[],.func (.func 151) #[] #[]]:=by apply Array.ext'; exact hab
    rw [hcs] at hh
    exact ⟨t',fz,Vs hh⟩
end Go.Proofs.YtoefdnbaklajeaaDoor

namespace Go.Proofs.YtoefdnbaklajeaaDoor
open Go Go.WideShapes Go.ChangeShapes Go.RowKit Go.Conc
theorem Aru:ownKnob Tryd.prog.godebug = none:=by kernel_rfl
theorem Ahc:laidOutB Tryd.prog = true:=by kernel_rfl
theorem door_met (os:Os) (args:Array Value):laidMetH Tryd.prog laidL ((World.doorLaid Tryd.prog 2000 os).forCall (fun _ _=>0) ⟨#[],args,[]⟩).memory :=
  laidMetH_of_parts3 (fuel:=8) (laidMet_of_run' 8 (by kernel_rfl) (by kernel_rfl)) (by kernel_rfl) (by kernel_rfl)
/-- What a law's row asks,with the two variables laid. -/
def Aqs (H:Type) (enc:TypeId × Value→H) (s:ChangeSpec) (fn:Func):World→Array Value→Prop :=
  fun w args=>(s.pre enc Tryd.prog fn [] false w args∧laidMetH Tryd.prog laidL w)∧sizedMet enc Tryd.prog fn (OpenSpec.ofChange s) false w args
theorem Sa {H:Type} {enc:TypeId × Value→H} {P:Program} {w:World} {base:Nat} {spare:Nat→Bool} {held:Bool}:∀ {ts:List TypeId} {vs:List Value} {ds:List (DataW H)} {ps:List MemPlace},DataW.TrodAll enc P w base spare held ts vs ds ps→vs.length = ts.length∧ds.length = ts.length
  | [],[],[],_,_=>⟨rfl,rfl⟩
  | t :: ts,v :: vs,d :: ds,_,⟨p,q,_,h,_⟩=>by have:=Sa h; simp [this]
  | [],[],_ :: _,_,h=>h.elim
  | [],_ :: _,_,_,h=>h.elim
  | _ :: _,[],_,_,h=>h.elim
  | _ :: _,_ :: _,[],_,h=>h.elim
theorem On {H:Type} {enc:TypeId × Value→H} {W W':World} (hb:Below W.heap.size W W'):∀ {ts:List TypeId} {vs:List Value} {ds:List (DataW H)} {ps:List MemPlace},(∀ t ∈ ts,Tryd.prog.readableRec t = true∧t < Tryd.prog.types.size)→(∀ x ∈ ps,x.block < W.heap.size) →
    DataW.TrodAll enc Tryd.prog W 0 (fun _=>true) true ts vs ds ps→DataW.TrodAll enc Tryd.prog W' 0 (fun b=>decide (b < W.heap.size)) true ts vs ds ps
  | [],[],[],_,_,_,h=>h
  | t :: ts,v :: vs,d :: ds,_,ht,hl,⟨p,q,h1,h2,he⟩=>⟨p,q,Below.trod Ahc (ht t (List.mem_cons_self ..)).1 (ht t (List.mem_cons_self ..)).2 h1 hb fun x hx=>hl x (he ▸ List.mem_append_left _ hx),On hb (fun t h=>ht t (List.mem_cons_of_mem _ h)) (fun x hx=>hl x (he ▸ List.mem_append_right _ hx)) h2,he⟩
  | [],[],_ :: _,_,_,_,h=>h.elim
  | [],_ :: _,_,_,_,_,h=>h.elim
  | _ :: _,[],_,_,_,_,h=>h.elim
  | _ :: _,_ :: _,[],_,_,_,h=>h.elim
set_option maxRecDepth 100000 in
theorem law_lift {f:FuncId} {r:Nat} {fn:Func} {s:ChangeSpec} (os:Os) (started:os.Started) (H:Type) (enc:TypeId × Value→H) (hfn:Tryd.prog.funcs[f]? = some fn) (hvars:s.vars = []) (hres:fn.resultTypes = #[4]) (hi:Tryd.prog.inits.idxOf? f = none)
    (hts:∀ t ∈ fn.params.toList,Tryd.prog.readableRec t = true∧t < Tryd.prog.types.size)
    (hspec:∀ ds:List (DataW H),ds.length = fn.params.toList.length→s.fn H ds = { results:=[.lit (.bool true)],args:=ds })
    (witness:∃ (w:World) (tape:Tape) (i:Input),w.os = os∧(w.forCall tape i).Shaped Tryd.prog∧i.vars = []∧Input.okWide Tryd.prog (w.forCall tape i) .any w.heap.size f i∧Aqs H enc s fn (w.forCall tape i).memory i.args∧({}:Assume).holds Tryd.prog (lone (Frame.enter Tryd.prog f i.args .normal) [] (w.forCall tape i)))
    (walk:∀ (W:World) (args:List Value) (ds:List (DataW H)) (ps:List MemPlace),(∀ (j:Nat) t v,fn.params[j]? = some t→args.toArray[j]? = some v→∃ b,Value.okWide Tryd.prog W .any b t v)→DataW.TrodAll enc Tryd.prog W 0 (fun _=>true) true fn.params.toList args ds ps →
      (DataW.weightsEach Tryd.prog fn.params.toList ds).all (· ≤ reachBytes) = true→Glob (roW W)→Agv (Iu Tryd.prog) f r args (roW W) [] (fun w ρ' σ'=>ρ' = roW W∧σ' = []∧w = .bool true)) :
    ReturnsInLeavingWide {} Tryd.checked os f .any (Aqs H enc s fn) (s.post enc Tryd.prog fn false true false false):=by
  refine returnsInLeavingWide_of_good (C:=Tryd.checked) Aru started witness ?_
  intro w tape i _ _ _ hok hpre _
  obtain ⟨_,_,_,fn',hfn',_,_,_,_,hval⟩:=hok
  have e:fn' = fn:=Option.some.inj (hfn'.symm.trans hfn)
  subst e
  obtain ⟨⟨⟨ds,gs,before,hw,_⟩,hL⟩,hz⟩:=hpre
  have hsz:=hz.weights hw
  have hw':=DataW.Whole.of_heap (w':=w.forCall tape i) (by rfl) hw
  have hL':=hL.of_heap (w':=w.forCall tape i) (by rfl)
  generalize w.forCall tape i = W at *
  obtain ⟨p,q,hA,hV,hb,hnf,hnd⟩:=hw'
  have hV':DataW.TrodVars enc Tryd.prog W (fun _=>true) [] gs q:=by rw [← hvars]; exact hV
  obtain ⟨rfl,rfl⟩:=trodVars_none hV'
  simp only [List.append_nil] at hb
  replace hb:=hb.symm
  subst hb
  have hvt:s.plain.varTypes Tryd.prog = []:=by unfold DataSpec.varTypes ChangeSpec.plain; rw [hvars]; rfl
  rw [show (OpenSpec.ofChange s).bare.plain.varTypes Tryd.prog = [] from hvt,List.append_nil,List.append_nil] at hsz
  obtain ⟨hl1,hl2⟩:=Sa hA
  have hargs:i.args.toList.toArray = i.args:=by simp
  have hbody:=walk W i.args.toList ds p (fun j t v h1 h2=>⟨_,hval j t v h1 (by rw [hargs] at h2; exact h2)⟩) hA hsz (Xd hL')
  have hW0:DataW.Whole enc Tryd.prog fn'.params.toList s.vars false W i.args.toList ds [] p:=⟨p,[],hA,hV,by simp,hnf,hnd⟩
  have hlt:∀ x ∈ p,x.block < W.heap.size:=fun x hx=>by simpa using hW0.lt x hx
  have hgo:=Xy (W0:=W) (Pst:=fun v W'=>s.post enc Tryd.prog fn' false true false false W i.args v W') hbody hi fun v ρ' σ' ⟨_,hσ,hv⟩=>⟨hσ,fun W' hbw=>by
    subst hv
    have er:(s.fn H (ds ++ [])) = { results:=[.lit (.bool true)],args:=ds }:=by rw [List.append_nil]; exact hspec ds hl2
    refine ⟨ds,[],p,[],p,[],hW0,?_,?_,?_,hbw.frame _,fun h=>by cases h⟩
    · rw [er,hres]; exact trodAll_mk1 (shut_bool Tryd.underlying4 true)
    · rw [er]; exact On hbw hts hlt hA
    · rw [er,hvars]; rfl⟩
  rw [hargs] at hgo
  obtain ⟨M,last,o,w',t',h1,h2,h3,h4⟩:=Ya hgo Anq
  exact ⟨M,last,o,w',t',h1,h2,h3,h4.mono fun v hp=>ChangeSpec.post_blind hp⟩
/-- A tied card without a companion,of a function that starts goroutines. -/
theorem tied_goes (Lk:Looks) {p:Pinned} {s:OpenSpec} {c:OpenClaim} (kinds:List LaidKind) (tests:Bool) (har:Bool × String) (lk:Bool)
    (hc:c.holds p s) (hw:c.wfByText s = true) (htie:c.laidByTextAt Lk p kinds tests)
    (hst:c.start = .entering) (hnb:c.noBlocks = false∧c.again = false) (hm:p.checked.prog.mainIs = some (har.1,har.2.toList)) (hn:(!har.1 && har.2.isEmpty && !lk) = false)
    (hl:∀ f fn,p.checked.prog.funcNamed c.func = some f→p.checked.prog.funcs[f]? = some fn→lk = p.checked.prog.looks []∧∀ (j:Nat) t,fn.params[j]? = some t→p.checked.prog.wantsStandIn t = false)
    (hg:true = c.goesBy p.checked.prog) :
    Claim7.holds p (.plain s) { stood:={ row:=c,standIns:=[],harness:=har,looks:=lk },kinds:=[],alts:=[],goes:=true,laidByText:=true,laidKinds:=kinds,laidTests:=tests,laidLooks:=Lk }:=by
  have h6:∀ r:OpenClaim,Claim7.isSixth { stood:={ row:=r,standIns:=[],harness:=har,looks:=lk },kinds:=[] } = false:=fun r=>by simpa [Claim7.isSixth] using hn
  exact ⟨Claim7.tied_new_at Lk kinds tests (Claim7.new_of_sixth hc har lk hst hnb hm (h6 c) hl) hw,(fun D hD=>by cases hD),htie,(fun h=>by cases h),hg⟩
end Go.Proofs.YtoefdnbaklajeaaDoor
