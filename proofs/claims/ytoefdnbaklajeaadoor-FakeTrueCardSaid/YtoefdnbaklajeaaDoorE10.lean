/- Every call of crocuslaw08.FakeTrue returns true, on every schedule, and leaves its arguments as they were: conditions: the two listed package-level variables hold what the program's text lays. -/
import Derived.Test.YtoefdnbaklajeaaDoorB5
import Derived.Carry
import Derived.ChangeArms
import Derived.ChangeSame
import Derived.ChangeVars
import Derived.Conc.Holds
import Derived.Conc.LeavingOf
import Derived.FnData
import Derived.LaidHandle
import Derived.LaidLaws
import Derived.LaidMore
import Derived.Laws.BitsAllLaws
import Derived.Laws.BitsLemmas
import Derived.OpenShut
import Derived.RowKit
import Derived.SizedLaws
import Derived.Stop.Joined
import Derived.Test.YtoefdnbaklajeaaDoorRows
import Derived.WideShapes
set_option linter.unusedVariables false
set_option linter.unusedSimpArgs false
namespace Go.Proofs.YtoefdnbaklajeaaDoor
open Go
section
variable {C:Ctx} {b:FB} {n:Nat} {l₀ rest:List Oper} {Q:Env→List Deferred→Ro→Own→Prop} {e:Env} {ds:List Deferred} {ρ:Ro} {σ:Own}
end
section
variable {P:Program} {ρ:Ro} {e:Env} {ty t t':TypeId} {x y:Operand} {v:Value}
theorem eqGuard_str {op:BinOp} {p q:ByteArray}:eqGuard op t x y (.string p) (.string q) = pure ():=by
  cases op <;> rfl
section
variable {k:IntKind} {p q:Int}
end
end
section
variable {C:Ctx} {b:FB} {n:Nat} {l₀:List Oper} {Q:Env→List Deferred→Ro→Own→Prop} {e:Env} {ds:List Deferred} {ρ ρ₀:Ro} {σ:Own} {pz:List Nat} {fuel:Nat} {listed:Array Bool}
section
variable {d i:Nat} {op:Op} {ty:TypeId} {pos:String} {af:Array Edge} {g:Option (Nat × Bool)} {v:Value} {li:List Bool}
end
end
end Go.Proofs.YtoefdnbaklajeaaDoor

namespace Go.Proofs.YtoefdnbaklajeaaDoor
open Go
section
variable {α:Type} [Dat α] {ρ ρ':Ro}
end
section
variable {P:Program} {ρ:Ro} {σ:Own} {t:TypeId}
end
section
variable {C:Ctx} {b:FB} {n:Nat} {l₀ rest:List Oper} {Q:Env→List Deferred→Ro→Own→Prop} {e:Env} {ds:List Deferred} {ρ:Ro} {σ:Own}
variable {d:Nat} {ty:TypeId} {pos:String} {af:Array Edge} {g:Option (Nat × Bool)} {x y:Operand} {v p:Value} {t:TypeId}
/-- A slice's part. -/
theorem slice_hi {α:Type} [Dat α] {xs:List α} {a:Option Addr} {len cap h:Nat} (hv:Val ρ (.slice a len cap) xs) (hh:h ≤ len):Val ρ (.slice (if cap = 0 then a else a.map (·.add (0 * Dat.k α))) (h - 0) (cap - 0)) (xs.take h):=by
  obtain ⟨a',len',cap',h1,h2,h3,h4,h5⟩:=Cs.1 hv
  cases h1
  refine Cs.2 ⟨a,h,cap,?_,by simp; omega,by omega,by omega,fun i x hx=>?_⟩
  · congr 1
    split
    · rfl
    · cases a with
      | none=>rfl
      | some ad=>simp [Addr.add]
  · rw [List.getElem?_take] at hx
    split at hx
    · exact h5 i x hx
    · cases hx
theorem y_slice_hi {P:Program} {α:Type} [Dat α] {xs:List α} {el:TypeId} {k:IntKind} {q:Int} (h:Nat) (hT:P.underlying t = some (.slice el)) (hE:GoTy P el α) (hx:Af e x = v) (hv:Val ρ v xs) (hy:Af e y = .int k q) (hq:q = (h:Int)) (hh:h ≤ xs.length) :
    ∃ w,Val ρ w (xs.take h)∧Yld P ρ e (.slice t x none (some y) none) ty w:=by
  obtain ⟨a,len,cap,h1,h2,h3,h4,h5⟩:=Cs.1 hv
  subst h1
  refine ⟨_,slice_hi hv (by omega),Mf (s:=Instr.sliceAt t (Af e x) none (some (Af e y)) none) (fun _ _ _ _=>rfl) fun ρ' σ _=>?_⟩
  rw [hx,hy,hq]
  show wpS P ρ' ((underlying t).bind _) σ _
  rw [Ad]
  refine Az hT ?_
  show wpS P ρ' ((underlying t).bind _) σ _
  rw [Ad]
  refine Az hT ?_
  simp only []
  show wpS P ρ' ((Instr.sliceBounds true len cap none (some (.int k h)) none).bind _) σ _
  have hb:Instr.sliceBounds true len cap none (some (.int k (h:Int))) none = pure (0,h,cap):=by
    show (do let m ← pure cap; let hh ← Instr.sliceBound (.int k (h:Int)) m _; let l ← pure 0; pure (l,hh,m):Sem _) = _
    have:Instr.sliceBound (.int k (h:Int)) cap .sliceAcap = pure h:=by
      show (if 0 ≤ (h:Int)∧(h:Int) ≤ cap then pure (h:Int).toNat else _) = _
      rw [if_pos (by omega)]; simp
    show (Instr.sliceBound (.int k (h:Int)) cap .sliceAcap).bind _ = _
    rw [this]; rfl
  rw [hb]
  show wpS P ρ' ((sizeOf el).bind _) σ _
  rw [Ad]
  exact Dw hE.info ⟨rfl,rfl⟩
end
end Go.Proofs.YtoefdnbaklajeaaDoor

namespace Go.Proofs.YtoefdnbaklajeaaDoor
open Go
section
variable {C:Ctx} {b:FB} {n:Nat} {l₀ rest:List Oper} {Q:Env→List Deferred→Ro→Own→Prop} {Q':Hv} {e:Env} {ds:List Deferred} {ρ:Ro} {σ:Own}
variable {d:Nat} {ty:TypeId} {pos:String} {af:Array Edge} {g:Option (Nat × Bool)} {x y:Operand} {v p:Value} {t t':TypeId}
section
variable {P:Program}
theorem y_rem {k:IntKind} {p q z:Int} (hx:Af e x = .int k p) (hy:Af e y = .int k q) (h0:q ≠ 0) (hz:p.tmod q = z):Yld P ρ e (.binOp .rem t x y t') ty (.int k z) :=
  Ju hx hy Dh (by subst hz; simp only [binOp]; rw [if_neg (by simp)]; unfold Op.intDiv; rw [if_neg h0])
theorem y_quo {k:IntKind} {p q z:Int} (hx:Af e x = .int k p) (hy:Af e y = .int k q) (h0:q ≠ 0) (hz:k.wrap (p.tdiv q) = z):Yld P ρ e (.binOp .quo t x y t') ty (.int k z) :=
  Ju hx hy Dh (by subst hz; simp only [binOp]; rw [if_neg (by simp)]; unfold Op.intDiv; rw [if_neg h0])
end
section
variable {P:Program}
theorem y_eqs {p q:ByteArray} (hx:Af e x = .string p) (hy:Af e y = .string q):Yld P ρ e (.binOp .eql t x y t') ty (.bool (p.toList == q.toList)):=Ju hx hy eqGuard_str (by simp only [binOp]; rfl)
end
end
end Go.Proofs.YtoefdnbaklajeaaDoor

namespace Go.Proofs.YtoefdnbaklajeaaDoor
open Go Go.WideShapes
theorem reach_lt {n:Nat} (h:n ≤ reachBytes):n < 2 ^ 60:=by unfold reachBytes at h; omega
theorem dec_int {t:TypeId} (ht:Tryd.prog.underlying t = some (.int .i64)) (hc:Tryd.prog.cellsOf t = 1):Apq Int t :=
  ⟨hc,fun H enc W fuel cs x h _=>by
    obtain ⟨n,h1,_,h3⟩:=DataW.trod_int ht h
    refine ⟨n,h1,?_⟩
    simp [Lit.wf,IntKind.min,IntKind.max,IntKind.signed,IntKind.bits] at h3
    exact ⟨by omega,by omega⟩⟩
theorem dec_bool {t:TypeId} (ht:Tryd.prog.underlying t = some .bool) (hc:Tryd.prog.cellsOf t = 1):Apq Bool t :=
  ⟨hc,fun H enc W fuel cs x h _=>by
    obtain ⟨b,h1,_⟩:=DataW.trod_bool ht h
    exact ⟨b,h1⟩⟩
theorem dec_str {t:TypeId} (ht:Tryd.prog.underlying t = some .string) (hc:Tryd.prog.cellsOf t = 1):Apq ByteArray t :=
  ⟨hc,fun H enc W fuel cs x h hw=>by
    obtain ⟨s,h1,h2,_⟩:=DataW.trod_string ht h
    refine ⟨s,h1,reach_lt ?_⟩
    have:=hw s.data.toList.length (by rw [h2]; simp [DataW.weights])
    simpa using this⟩
theorem list_of {α:Type} {P:Nat→α→Prop}:∀ n,(∀ i,i < n→∃ a,P i a)→∃ xs:List α,xs.length = n∧∀ i x,xs[i]? = some x→P i x
  | 0,_=>⟨[],rfl,fun i x h=>by cases h⟩
  | n + 1,h=>by
    obtain ⟨xs,h1,h2⟩:=list_of n fun i hi=>h i (by omega)
    obtain ⟨a,ha⟩:=h n (by omega)
    refine ⟨xs ++ [a],by simp [h1],fun i x hx=>?_⟩
    rcases Nat.lt_or_ge i n with hlt | hge
    · rw [List.getElem?_append_left (by omega)] at hx; exact h2 i x hx
    · have hi:i = n:=by
        have:=(List.getElem?_eq_some_iff.1 hx).1
        simp only [List.length_append,List.length_singleton] at this; omega
      subst hi
      rw [List.getElem?_append_right (by omega),h1,Nat.sub_self] at hx
      cases hx; exact ha
theorem add_0 {a:Addr}:a.add 0 = a:=by simp [Addr.add]
theorem add_none {b off i:Nat}:(⟨b,off,none⟩:Addr).add i = ⟨b,off + i,none⟩:=by
  unfold Addr.add; split
  · rename_i h; subst h; rfl
  · rfl
theorem row_cells {W:World} {a:Addr} {k:Nat} {cs:List Value} (hk:1 ≤ k) (h:W.cells? 0 a k = some cs):∃ b off c t fz rest,a = ⟨b,off,none⟩∧W.heap[b]? = some (.cells c t fz)∧c.toList.drop off = cs ++ rest∧cs.length = k:=by
  unfold World.cells? at h
  rw [if_pos (Nat.zero_le _)] at h
  have hl:=mapM_some_length h
  rw [List.length_range] at hl
  have hg:∀ j,j < k→W.cell? (a.add j) = cs[j]?:=fun j hj=>mapM_some_get h j j (by rw [List.getElem?_range hj])
  obtain ⟨b,off,spot⟩:=a
  have h0:=hg 0 hk
  rw [add_0] at h0
  obtain ⟨v,hv⟩:∃ v,cs[0]? = some v:=⟨_,List.getElem?_eq_getElem (by omega)⟩
  rw [hv] at h0
  unfold World.cell? at h0
  simp only at h0
  cases hb:W.heap[b]? with
  | none=>rw [hb] at h0; cases h0
  | some o =>
    cases o with
    | cells c t fz =>
      rw [hb] at h0
      simp only at h0
      cases spot with
      | some s=>simp at h0
      | none =>
        refine ⟨b,off,c,t,fz,(c.toList.drop off).drop k,rfl,hb,?_,hl⟩
        have e1:(c.toList.drop off).take k = cs:=by
          apply List.ext_getElem?
          intro j
          rw [List.getElem?_take]
          by_cases hj:j < k
          · rw [if_pos hj,← hg j hj,List.getElem?_drop,add_none]
            unfold World.cell?
            simp only [hb]
            simp
          · rw [if_neg hj,List.getElem?_eq_none (by omega)]
        rw [← e1,List.take_append_drop]
    | _=>rw [hb] at h0; cases h0
theorem weightsAll_mem {H:Type} {P:Program} {e:TypeId}:∀ {ds:List (DataW H)} {d:DataW H} {n:Nat},d ∈ ds→n ∈ d.weights P e→n ∈ DataW.weightsAll P e ds
  | [],_,_,h,_=>by cases h
  | d' :: ds,d,n,h,hn=>by
    rw [DataW.weightsAll,List.mem_append]
    rcases List.mem_cons.1 h with rfl | h
    · exact .inl hn
    · exact .inr (weightsAll_mem h hn)
theorem dec_list {α:Type} [Dat α] {t e:TypeId} (ht:Tryd.prog.underlying t = some (.slice e)) (hc:Tryd.prog.cellsOf t = 1) (hb:1 ≤ Tryd.prog.bytesOf e) (hk:1 ≤ Dat.k α) (he:Apq α e):Apq (List α) t :=
  ⟨hc,fun H enc W fuel cs x h hw=>by
    rcases DataW.trod_slice ht h with ⟨h1,_⟩ | ⟨a,len,cap,Av,rest,n,_,h2,h3,_,h5,_,h6,h7,_,_⟩
    · exact ⟨[],_,h1,none,0,0,rfl,rfl,by omega,Nat.le_refl _,fun i x hx=>by cases hx⟩
    · rw [h3] at hw
      simp only [DataW.weights,ht] at hw
      have hlen:len < 2 ^ 60:=by
        have:=hw _ (List.mem_cons_self ..)
        simp only [List.length_map] at this
        refine reach_lt (Nat.le_trans ?_ this)
        rw [h6]
        exact Nat.le_trans (Nat.le_trans (Nat.le_add_right _ _) (Nat.le_of_eq (Nat.mul_one _).symm)) (Nat.mul_le_mul_left _ hb)
      obtain ⟨xs,hx1,hx2⟩:=list_of (P:=fun i (y:α)=>∃ cs,W.cells? 0 (a.add (i * Tryd.prog.cellsOf e)) (Tryd.prog.cellsOf e) = some cs∧Dat.rep (roW W) cs y) len fun i hi=>by
        have h8:=h7 i hi
        obtain ⟨y,hy⟩:∃ y,Av[i]? = some y:=⟨_,List.getElem?_eq_getElem (by omega)⟩
        rw [hy,Option.bind_eq_some_iff] at h8
        obtain ⟨ci,hc1,hc2⟩:=h8
        obtain ⟨z,hz⟩:=he.2 H enc W n ci y hc2 fun m hm=>hw m (List.mem_cons_of_mem _ (List.mem_append_left _ (weightsAll_mem (List.mem_map_of_mem (List.mem_of_getElem? hy)) hm)))
        exact ⟨z,ci,hc1,hz⟩
      refine ⟨xs,_,h2,some a,len,cap,rfl,hx1,hlen,h5,fun i y hy=>?_⟩
      obtain ⟨b',off',rfl⟩:∃ b' off',a = ⟨b',off',none⟩:=by
        have hi:=(List.getElem?_eq_some_iff.1 hy).1
        obtain ⟨y0,hy0⟩:∃ y0,xs[0]? = some y0:=⟨_,List.getElem?_eq_getElem (by omega)⟩
        obtain ⟨ci,hc1,_⟩:=hx2 0 y0 hy0
        rw [he.1,Nat.zero_mul,add_0] at hc1
        obtain ⟨b,off,_,_,_,_,h8,_⟩:=row_cells hk hc1
        exact ⟨b,off,h8⟩
      obtain ⟨ci,hc1,hc2⟩:=hx2 i y hy
      rw [he.1,add_none] at hc1
      obtain ⟨b,off,c,t',fz,rs,h8,h9,h10,_⟩:=row_cells hk hc1
      simp only [Addr.mk.injEq,and_true] at h8
      obtain ⟨rfl,rfl⟩:=h8
      exact ⟨b',off',rfl,b',_,c,t',fz,ci,rs,rfl,Vs h9,hc2,h10⟩⟩
theorem cut_at (cs:List Value) (a k:Nat):cs.drop a = (cs.drop a).take k ++ cs.drop (a + k):=by rw [← List.drop_drop,List.take_append_drop]
theorem field_at {H:Type} {enc:TypeId × Value→H} {W:World} {n:Nat} {cs:List Value} {xs:List (DataW H × List MemPlace)} {fs:Array Field} {t:TypeId} (ht:Tryd.prog.underlying t = some (.struct fs)) (hl:xs.length = fs.size) (h:∀ (i:Nat) (f:Field),fs[i]? = some f→DataW.trod enc Tryd.prog W 0 (fun _=>true) true n f.type ((cs.drop f.offset).take (Tryd.prog.cellsOf f.type)) = xs[i]?)
    (hw:∀ m ∈ (DataW.agg (xs.map (·.1)):DataW H).weights Tryd.prog t,m ≤ reachBytes) {α:Type} [Dat α] {i ft off:Nat} {f:Field} (hf:fs[i]? = some f) (h1:f.type = ft) (h2:f.offset = off) (hd:Apq α ft):∃ a:α,Dat.rep (roW W) ((cs.drop off).take (Dat.k α)) a:=by
  subst h1 h2
  have hi:=(Array.getElem?_eq_some_iff.1 hf).1
  obtain ⟨y,hy⟩:∃ y,xs[i]? = some y:=⟨_,List.getElem?_eq_getElem (by omega)⟩
  have h3:=h i f hf
  rw [hy,hd.1] at h3
  refine hd.2 H enc W n _ y h3 fun m hm=>hw m ?_
  simp only [DataW.weights,ht]
  exact DataW.weights_mem_each (j:=i) (t:=f.type) (d:=y.1) (by simp [Array.getElem?_toList,hf]) (by simp [hy]) m hm
theorem dec108:Apq FTest 108:=⟨by kernel_rfl,fun H enc W fuel cs x h hw=>by
  obtain ⟨xs,n,_,rfl,hcl,hl,hf⟩:=DataW.trod_struct Tryd.underlying108 h
  rw [show Tryd.prog.cellsOf 108 = 3 from by kernel_rfl] at hcl
  obtain ⟨a0,r0⟩:=field_at (i:=0) Tryd.underlying108 hl hf hw rfl rfl (show _ = 0 from rfl) (dec_str Tryd.underlying9 (by kernel_rfl))
  obtain ⟨a1,r1⟩:=field_at (i:=1) Tryd.underlying108 hl hf hw rfl rfl (show _ = 1 from rfl) (dec_list Tryd.underlying46 (by kernel_rfl) (Nat.le_of_ble_eq_true (by kernel_rfl)) (by decide) (dec_int Tryd.underlying53 (by kernel_rfl)))
  obtain ⟨a2,r2⟩:=field_at (i:=2) Tryd.underlying108 hl hf hw rfl rfl (show _ = 2 from rfl) (dec_bool Tryd.underlying4 (by kernel_rfl))
  refine ⟨⟨a0,a1,a2⟩,?_⟩
  have e0:cs = cs.drop 0:=rfl
  rw [e0]
  exact ⟨(cs.drop 0).take 1,cs.drop 1,(cut_at cs 0 1).trans (by rfl),r0,⟨(cs.drop 1).take 1,cs.drop 2,(cut_at cs 1 1).trans (by rfl),r1,(show Dat.rep (roW W) (cs.drop 2) a2 from by (have:=r2; rw [List.take_of_length_le (by rw [List.length_drop,hcl]; decide)] at this; exact this))⟩⟩⟩
theorem dec40:Apq Lab 40:=⟨by kernel_rfl,fun H enc W fuel cs x h hw=>by
  obtain ⟨xs,n,_,rfl,hcl,hl,hf⟩:=DataW.trod_struct Tryd.underlying40 h
  rw [show Tryd.prog.cellsOf 40 = 3 from by kernel_rfl] at hcl
  obtain ⟨a0,r0⟩:=field_at (i:=0) Tryd.underlying40 hl hf hw rfl rfl (show _ = 0 from rfl) (dec_list Tryd.underlying22 (by kernel_rfl) (Nat.le_of_ble_eq_true (by kernel_rfl)) (by decide) (dec_str Tryd.underlying9 (by kernel_rfl)))
  obtain ⟨a1,r1⟩:=field_at (i:=1) Tryd.underlying40 hl hf hw rfl rfl (show _ = 1 from rfl) (dec_int Tryd.underlying3 (by kernel_rfl))
  obtain ⟨a2,r2⟩:=field_at (i:=2) Tryd.underlying40 hl hf hw rfl rfl (show _ = 2 from rfl) (dec_list Tryd.underlying38 (by kernel_rfl) (Nat.le_of_ble_eq_true (by kernel_rfl)) (by decide) dec108)
  refine ⟨⟨a0,a1,a2⟩,?_⟩
  have e0:cs = cs.drop 0:=rfl
  rw [e0]
  exact ⟨(cs.drop 0).take 1,cs.drop 1,(cut_at cs 0 1).trans (by rfl),r0,⟨(cs.drop 1).take 1,cs.drop 2,(cut_at cs 1 1).trans (by rfl),r1,(show Dat.rep (roW W) (cs.drop 2) a2 from by (have:=r2; rw [List.take_of_length_le (by rw [List.length_drop,hcl]; decide)] at this; exact this))⟩⟩⟩
end Go.Proofs.YtoefdnbaklajeaaDoor

namespace Go.Proofs.YtoefdnbaklajeaaDoor
open Go Go.WideShapes Go.ChangeShapes Go.RowKit Go.Conc
section
variable {H:Type} {enc:TypeId × Value→H} {W:World} {r:Reach} {base t:Nat} {v:Value} {d:DataW H} {p:List MemPlace}
end
theorem weights_at {H:Type} {P:Program} {ts:List TypeId} {ds:List (DataW H)} (h:(DataW.weightsEach P ts ds).all (· ≤ reachBytes) = true) {j:Nat} {t:TypeId} {d:DataW H} (ht:ts[j]? = some t) (hd:ds[j]? = some d):∀ n ∈ d.weights P t,n ≤ reachBytes:=fun n hn=>by
  have:=List.all_eq_true.1 h _ (DataW.weights_mem_each ht hd n hn)
  simpa using this
end Go.Proofs.YtoefdnbaklajeaaDoor

namespace Go.Proofs.YtoefdnbaklajeaaDoor
open Go
theorem okAll_t {s:ByteArray}:(List.range s.size).all (Alz s) = true↔∀ j,j < s.size→Alz s j = true:=by simp
theorem okAll_f {s:ByteArray} {j:Nat} (h:j < s.size) (h0:Alz s j = false):(List.range s.size).all (Alz s) = false:=by
  cases hh:(List.range s.size).all (Alz s) with
  | false=>rfl
  | true=>rw [okAll_t.1 hh j h] at h0; cases h0
end Go.Proofs.YtoefdnbaklajeaaDoor

namespace Go.Proofs.YtoefdnbaklajeaaDoor
open Go
set_option maxRecDepth 100000 in
theorem c_In {mn:Bool} {X:Frame→List Frame→Ro→Own→Cy→Prop} {ρ:Ro} {σ:Own} {n low high:Int} :CallsH (CX mn X) 79 #[(iV (n)),(iV (low)),(iV (high))] ρ σ (fun w ρ' σ'=>ρ' = ρ∧σ' = σ∧w = (.bool (inR n low high))):=by
 refine Bh (n:=15) (args:=[(iV (n)),(iV (low)),(iV (high))]) [6] Tryd.func79 rfl rfl rfl rfl fun Q hret hnor=>?_
 refine w_q rfl rfl fun K1 k1=>?_
 refine l_A (.bool (false)) rfl rfl ?_
 apply Ac
 apply k1
 refine w_q rfl rfl fun K2 k2=>?_
 refine l_M (iV (low)) rfl rfl ?_
 refine l_M (iV (n)) rfl rfl ?_
 refine Aa rfl (Tx (p:=low) (q:=n) rfl rfl) ?_
 refine l_M (.bool (decide (low ≤ n))) rfl rfl ?_
 refine Cn (decide (low ≤ n)) (fun b3=>?_) (fun b3=>?_)
 ·have q3:=of_decide_eq_true b3
  refine l_M (iV (n)) (Ar rfl rfl rfl b3) rfl ?_
  refine l_M (iV (high)) (Ar rfl rfl rfl b3) rfl ?_
  refine Aa (Ar rfl rfl rfl b3) (Tx (p:=n) (q:=high) rfl rfl) ?_
  refine Aa rfl (Bt rfl b3 (v:=(.bool (decide (n ≤ high)))) rfl) ?_
  refine l_A (.bool (decide (n ≤ high))) rfl rfl ?_
  apply Ac
  apply k2
  refine Aq ?_
  refine hret _ _ _ ?_
  refine ⟨rfl,rfl,Eq.trans (b:=(.bool (decide (n ≤ high)))) rfl ?_⟩
  simp only [inR,b3,Bool.true_and,Bool.false_and,Bool.and_true,Bool.and_false,Bool.true_or,Bool.false_or,Bool.or_true,Bool.or_false,Bool.not_true,Bool.not_false]
 have q3:=of_decide_eq_false b3
 refine Ap (Bl rfl rfl rfl b3) ?_
 refine Ap (Bl rfl rfl rfl b3) ?_
 refine Ap (Bl rfl rfl rfl b3) ?_
 refine Aa rfl (Bm rfl b3 (v:=(.bool (false))) rfl) ?_
 refine l_A (.bool (false)) rfl rfl ?_
 apply Ac
 apply k2
 refine Aq ?_
 refine hret _ _ _ ?_
 refine ⟨rfl,rfl,Eq.trans (b:=(.bool (false))) rfl ?_⟩
 simp only [inR,b3,Bool.true_and,Bool.false_and,Bool.and_true,Bool.and_false,Bool.true_or,Bool.false_or,Bool.or_true,Bool.or_false,Bool.not_true,Bool.not_false]
set_option maxRecDepth 100000 in
theorem c_Name {mn:Bool} {X:Frame→List Frame→Ro→Own→Cy→Prop} {ρ:Ro} {σ:Own} {s:ByteArray} :CallsH (CX mn X) 78 #[(.string (s))] ρ σ (fun w ρ' σ'=>ρ' = ρ∧σ' = σ∧w = (.bool (Hi s))):=by
 refine Bh (n:=46) (args:=[(.string (s))]) [2] Tryd.func78 rfl rfl rfl rfl fun Q hret hnor=>?_
 refine w_q rfl rfl fun K1 k1=>?_
 refine l_A (.bool (false)) rfl rfl ?_
 apply Ac
 apply k1
 refine Ai fun K2 k2=>?_
 refine w_q rfl rfl fun K3 k3=>?_
 refine l_M (.string (s)) rfl rfl ?_
 refine Aa rfl (Afb Tryd.underlying9 (s:=s) rfl) ?_
 refine Ae rfl (Bn (vs:=[(iV (((s.size:Nat):Int))),(iV (1)),(iV (14))]) (v:=(.bool (inR (((s.size:Nat):Int)) 1 14))) (c_In) Tryd.func79 rfl rfl ⟨rfl,rfl,rfl,trivial⟩ ?_)
 refine Aa rfl (Ix (k:=inR (((s.size:Nat):Int)) 1 14) rfl) ?_
 refine l_M (.bool (!(inR (((s.size:Nat):Int)) 1 14))) rfl rfl ?_
 refine Cn (!(inR (((s.size:Nat):Int)) 1 14)) (fun b4=>?_) (fun b4=>?_)
 ·have b5:=not_eq_t b4
  have q5:=Ui.1 b5
  refine Ap (Bl rfl rfl rfl b4) ?_
  refine Ap (Bl rfl rfl rfl b4) ?_
  refine Ap (Bl rfl rfl rfl b4) ?_
  refine Aa rfl (Bt rfl b4 (v:=(.bool (true))) rfl) ?_
  refine l_M (.bool (true)) rfl rfl ?_
  refine Ap (Bl rfl rfl rfl rfl) ?_
  refine Ap (Bl rfl rfl rfl rfl) ?_
  refine Ap (Bl rfl rfl rfl rfl) ?_
  refine Aa rfl (Bt rfl rfl (v:=(.bool (true))) rfl) ?_
  apply Ac
  apply k3
  refine Co rfl rfl ?_
  refine w_q rfl rfl fun K6 k6=>?_
  refine l_A (.bool (false)) rfl rfl ?_
  apply Ac
  apply k6
  refine Aq ?_
  refine hret _ _ _ ?_
  refine ⟨rfl,rfl,Eq.trans (b:=(.bool (false))) rfl ?_⟩
  simp only [Hi,Pu,b4,b5,Bool.true_and,Bool.false_and,Bool.and_true,Bool.and_false,Bool.true_or,Bool.false_or,Bool.or_true,Bool.or_false,Bool.not_true,Bool.not_false]
 have b7:=not_eq_f b4
 have q7:=Ge.1 b7
 refine l_M (.string (s)) (Ar rfl rfl rfl b4) rfl ?_
 obtain ⟨c8,hc8⟩:=Alh (s:=s) (i:=0) (by omega)
 refine Aa (Ar rfl rfl rfl b4) (Aaw 0 c8 Tryd.underlying9 rfl (q:=0) rfl rfl hc8) ?_
 refine Aa (Ar rfl rfl rfl b4) (Da (p:=((c8.toNat:Nat):Int)) (q:=97) rfl rfl) ?_
 refine Aa rfl (Bm rfl b4 (v:=(.bool (decide (((c8.toNat:Nat):Int) < 97)))) rfl) ?_
 refine l_M (.bool (decide (((c8.toNat:Nat):Int) < 97))) rfl rfl ?_
 refine Cn (decide (((c8.toNat:Nat):Int) < 97)) (fun b9=>?_) (fun b9=>?_)
 ·have q9:=of_decide_eq_true b9
  refine Ap (Bl rfl rfl rfl b9) ?_
  refine Ap (Bl rfl rfl rfl b9) ?_
  refine Ap (Bl rfl rfl rfl b9) ?_
  refine Aa rfl (Bt rfl b9 (v:=(.bool (true))) rfl) ?_
  apply Ac
  apply k3
  refine Co rfl rfl ?_
  refine w_q rfl rfl fun K10 k10=>?_
  refine l_A (.bool (false)) rfl rfl ?_
  apply Ac
  apply k10
  refine Aq ?_
  refine hret _ _ _ ?_
  refine ⟨rfl,rfl,Eq.trans (b:=(.bool (false))) rfl ?_⟩
  simp only [Hi,Pu,hc8,b4,b7,b9,Bool.true_and,Bool.false_and,Bool.and_true,Bool.and_false,Bool.true_or,Bool.false_or,Bool.or_true,Bool.or_false,Bool.not_true,Bool.not_false]
 have q9:=of_decide_eq_false b9
 refine l_M (.string (s)) (Ar rfl rfl rfl b9) rfl ?_
 refine Aa (Ar rfl rfl rfl b9) (Aaw 0 c8 Tryd.underlying9 rfl (q:=0) rfl rfl hc8) ?_
 refine Aa (Ar rfl rfl rfl b9) (Gk (p:=((c8.toNat:Nat):Int)) (q:=122) rfl rfl) ?_
 refine Aa rfl (Bm rfl b9 (v:=(.bool (decide (((c8.toNat:Nat):Int) > 122)))) rfl) ?_
 apply Ac
 apply k3
 refine As (t:=decide (((c8.toNat:Nat):Int) > 122)) rfl (fun b12=>?_) (fun b12=>?_)
 ·have q12:=of_decide_eq_true b12
  refine w_q rfl rfl fun K13 k13=>?_
  refine l_A (.bool (false)) rfl rfl ?_
  apply Ac
  apply k13
  refine Aq ?_
  refine hret _ _ _ ?_
  refine ⟨rfl,rfl,Eq.trans (b:=(.bool (false))) rfl ?_⟩
  simp only [Hi,Pu,hc8,b4,b7,b9,b12,Bool.true_and,Bool.false_and,Bool.and_true,Bool.and_false,Bool.true_or,Bool.false_or,Bool.or_true,Bool.or_false,Bool.not_true,Bool.not_false]
 have q12:=of_decide_eq_false b12
 refine Al ?_
 apply k2
 refine Ai fun K14 k14=>?_
 refine w_q rfl rfl fun K15 k15=>?_
 refine l_A (iV (0)) rfl rfl ?_
 apply Ac
 apply k15
 refine Ao ?_
 refine Cc (fun mm ee dd ρ' σ'=>∃ (i:Nat),(s.size - i) = mm∧[] = dd∧ρ = ρ'∧σ = σ'∧ee 0 = (.string (s))∧ee 3 = (iV ((i:Int)))∧(i ≤ s.size)∧(∀ j,j < i→Alz s j = true)∧True) (m:=_) ⟨0,rfl,rfl,rfl,rfl,rfl,rfl,(Nat.zero_le _),(fun j h=>absurd h (Nat.not_lt_zero _)),trivial⟩ ?_
 rintro m16 e16 _ _ _ ⟨i,rfl,rfl,rfl,rfl,h16_0,h16_3,p16_0,p16_1,_⟩
 refine Ai fun K17 k17=>?_
 refine w_q rfl rfl fun K18 k18=>?_
 refine Aa rfl (Ah (v:=(iV ((i:Int)))) h16_3) ?_
 refine Aa rfl (Ah (v:=(.string (s))) h16_0) ?_
 refine Aa rfl (Afb Tryd.underlying9 (s:=s) rfl) ?_
 refine Aa rfl (Da (p:=(i:Int)) (q:=((s.size:Nat):Int)) rfl rfl) ?_
 apply Ac
 apply k18
 refine As (t:=decide ((i:Int) < ((s.size:Nat):Int))) rfl (fun b19=>?_) (fun b19=>?_)
 ·have q19:=of_decide_eq_true b19
  refine Al ?_
  apply k17
  refine Ai fun K20 k20=>?_
  refine Ao ?_
  refine w_q rfl rfl fun K21 k21=>?_
  refine Aa rfl (Ah (v:=(.string (s))) h16_0) ?_
  refine Aa rfl (Ah (v:=(iV ((i:Int)))) h16_3) ?_
  obtain ⟨c22,hc22⟩:=Alh (s:=s) (i:=i) (by omega)
  refine Aa rfl (Aaw i c22 Tryd.underlying9 rfl (q:=(i:Int)) rfl rfl hc22) ?_
  refine l_A (.int .u8 (((c22.toNat:Nat):Int))) rfl rfl ?_
  apply Ac
  apply k21
  refine w_q rfl rfl fun K23 k23=>?_
  refine l_M (.int .u8 (((c22.toNat:Nat):Int))) rfl rfl ?_
  refine Aa rfl (Da (p:=((c22.toNat:Nat):Int)) (q:=97) rfl rfl) ?_
  refine l_M (.bool (decide (((c22.toNat:Nat):Int) < 97))) rfl rfl ?_
  refine Cn (decide (((c22.toNat:Nat):Int) < 97)) (fun b24=>?_) (fun b24=>?_)
  ·have q24:=of_decide_eq_true b24
   refine Ap (Bl rfl rfl rfl b24) ?_
   refine Ap (Bl rfl rfl rfl b24) ?_
   refine Aa rfl (Bt rfl b24 (v:=(.bool (true))) rfl) ?_
   refine l_M (.bool (true)) rfl rfl ?_
   refine l_M (.int .u8 (((c22.toNat:Nat):Int))) (Ar rfl rfl rfl rfl) rfl ?_
   refine Aa (Ar rfl rfl rfl rfl) (Da (p:=((c22.toNat:Nat):Int)) (q:=48) rfl rfl) ?_
   refine l_M (.bool (decide (((c22.toNat:Nat):Int) < 48))) (Ar rfl rfl rfl rfl) rfl ?_
   refine Cn (decide (((c22.toNat:Nat):Int) < 48)) (fun b25=>?_) (fun b25=>?_)
   ·have q25:=of_decide_eq_true b25
    refine Ap (Bl rfl rfl rfl b25) ?_
    refine Ap (Bl rfl rfl rfl b25) ?_
    refine Aa (Ar rfl rfl rfl rfl) (Bt rfl b25 (v:=(.bool (true))) rfl) ?_
    refine Aa rfl (Bt rfl rfl (v:=(.bool (true))) rfl) ?_
    refine l_M (.bool (true)) rfl rfl ?_
    refine l_M (.int .u8 (((c22.toNat:Nat):Int))) (Ar rfl rfl rfl rfl) rfl ?_
    refine Aa (Ar rfl rfl rfl rfl) (Dg (p:=((c22.toNat:Nat):Int)) (q:=45) rfl rfl) ?_
    refine Aa rfl (Bt rfl rfl (v:=(.bool (((c22.toNat:Nat):Int) != 45))) rfl) ?_
    apply Ac
    apply k23
    refine As (t:=((c22.toNat:Nat):Int) != 45) rfl (fun b26=>?_) (fun b26=>?_)
    ·have q26:=Mb b26
     refine w_q rfl rfl fun K27 k27=>?_
     refine l_A (.bool (false)) rfl rfl ?_
     apply Ac
     apply k27
     refine Aq ?_
     refine hret _ _ _ ?_
     refine ⟨rfl,rfl,Eq.trans (b:=(.bool (false))) rfl ?_⟩
     have hbad:Alz s i = false:=by simp only [Alz,hc22,Pk,b4,b7,b9,b12,b19,b24,b25,b26,Bool.true_and,Bool.false_and,Bool.and_true,Bool.and_false,Bool.true_or,Bool.false_or,Bool.or_true,Bool.or_false,Bool.not_true,Bool.not_false]
     have hall:=okAll_f (by omega) hbad
     simp only [Hi,hall,b4,b7,b9,b12,b19,b24,b25,b26,Bool.true_and,Bool.false_and,Bool.and_true,Bool.and_false,Bool.true_or,Bool.false_or,Bool.or_true,Bool.or_false,Bool.not_true,Bool.not_false]
    have q26:=Jh b26
    refine Al ?_
    apply k20
    refine Ag rfl rfl ?_
    refine Aa rfl (Ah (v:=(iV ((i:Int)))) h16_3) ?_
    refine Aa rfl (Br (p:=(i:Int)) (q:=1) rfl rfl (z:=(((i + 1):Nat):Int)) (Bo (by first | rfl | omega | (push_cast; rfl)) (by omega) (by omega))) ?_
    refine l_A (iV ((((i + 1):Nat):Int))) rfl rfl ?_
    apply Ac
    refine ⟨_,?_,((i + 1)),rfl,rfl,rfl,rfl,h16_0,rfl,(by omega),(Ef p16_1 (by simp only [Alz,hc22,Pk,b4,b7,b9,b12,b19,b24,b25,b26,Bool.true_and,Bool.false_and,Bool.and_true,Bool.and_false,Bool.true_or,Bool.false_or,Bool.or_true,Bool.or_false,Bool.not_true,Bool.not_false])),trivial⟩
    omega
   have q25:=of_decide_eq_false b25
   refine l_M (.int .u8 (((c22.toNat:Nat):Int))) (Ar rfl rfl rfl b25) rfl ?_
   refine Aa (Ar rfl rfl rfl b25) (Gk (p:=((c22.toNat:Nat):Int)) (q:=57) rfl rfl) ?_
   refine Aa (Ar rfl rfl rfl rfl) (Bm rfl b25 (v:=(.bool (decide (((c22.toNat:Nat):Int) > 57)))) rfl) ?_
   refine Aa rfl (Bt rfl rfl (v:=(.bool (decide (((c22.toNat:Nat):Int) > 57)))) rfl) ?_
   refine l_M (.bool (decide (((c22.toNat:Nat):Int) > 57))) rfl rfl ?_
   refine Cn (decide (((c22.toNat:Nat):Int) > 57)) (fun b28=>?_) (fun b28=>?_)
   ·have q28:=of_decide_eq_true b28
    refine l_M (.int .u8 (((c22.toNat:Nat):Int))) (Ar rfl rfl rfl b28) rfl ?_
    refine Aa (Ar rfl rfl rfl b28) (Dg (p:=((c22.toNat:Nat):Int)) (q:=45) rfl rfl) ?_
    refine Aa rfl (Bt rfl b28 (v:=(.bool (((c22.toNat:Nat):Int) != 45))) rfl) ?_
    apply Ac
    apply k23
    refine As (t:=((c22.toNat:Nat):Int) != 45) rfl (fun b29=>?_) (fun b29=>?_)
    ·have q29:=Mb b29
     refine w_q rfl rfl fun K30 k30=>?_
     refine l_A (.bool (false)) rfl rfl ?_
     apply Ac
     apply k30
     refine Aq ?_
     refine hret _ _ _ ?_
     refine ⟨rfl,rfl,Eq.trans (b:=(.bool (false))) rfl ?_⟩
     have hbad:Alz s i = false:=by simp only [Alz,hc22,Pk,b4,b7,b9,b12,b19,b24,b25,b28,b29,Bool.true_and,Bool.false_and,Bool.and_true,Bool.and_false,Bool.true_or,Bool.false_or,Bool.or_true,Bool.or_false,Bool.not_true,Bool.not_false]
     have hall:=okAll_f (by omega) hbad
     simp only [Hi,hall,b4,b7,b9,b12,b19,b24,b25,b28,b29,Bool.true_and,Bool.false_and,Bool.and_true,Bool.and_false,Bool.true_or,Bool.false_or,Bool.or_true,Bool.or_false,Bool.not_true,Bool.not_false]
    have q29:=Jh b29
    refine Al ?_
    apply k20
    refine Ag rfl rfl ?_
    refine Aa rfl (Ah (v:=(iV ((i:Int)))) h16_3) ?_
    refine Aa rfl (Br (p:=(i:Int)) (q:=1) rfl rfl (z:=(((i + 1):Nat):Int)) (Bo (by first | rfl | omega | (push_cast; rfl)) (by omega) (by omega))) ?_
    refine l_A (iV ((((i + 1):Nat):Int))) rfl rfl ?_
    apply Ac
    refine ⟨_,?_,((i + 1)),rfl,rfl,rfl,rfl,h16_0,rfl,(by omega),(Ef p16_1 (by simp only [Alz,hc22,Pk,b4,b7,b9,b12,b19,b24,b25,b28,b29,Bool.true_and,Bool.false_and,Bool.and_true,Bool.and_false,Bool.true_or,Bool.false_or,Bool.or_true,Bool.or_false,Bool.not_true,Bool.not_false])),trivial⟩
    omega
   have q28:=of_decide_eq_false b28
   refine Ap (Bl rfl rfl rfl b28) ?_
   refine Ap (Bl rfl rfl rfl b28) ?_
   refine Aa rfl (Bm rfl b28 (v:=(.bool (false))) rfl) ?_
   apply Ac
   apply k23
   refine Cg rfl rfl ?_
   refine Al ?_
   apply k20
   refine Ag rfl rfl ?_
   refine Aa rfl (Ah (v:=(iV ((i:Int)))) h16_3) ?_
   refine Aa rfl (Br (p:=(i:Int)) (q:=1) rfl rfl (z:=(((i + 1):Nat):Int)) (Bo (by first | rfl | omega | (push_cast; rfl)) (by omega) (by omega))) ?_
   refine l_A (iV ((((i + 1):Nat):Int))) rfl rfl ?_
   apply Ac
   refine ⟨_,?_,((i + 1)),rfl,rfl,rfl,rfl,h16_0,rfl,(by omega),(Ef p16_1 (by simp only [Alz,hc22,Pk,b4,b7,b9,b12,b19,b24,b25,b28,Bool.true_and,Bool.false_and,Bool.and_true,Bool.and_false,Bool.true_or,Bool.false_or,Bool.or_true,Bool.or_false,Bool.not_true,Bool.not_false])),trivial⟩
   omega
  have q24:=of_decide_eq_false b24
  refine l_M (.int .u8 (((c22.toNat:Nat):Int))) (Ar rfl rfl rfl b24) rfl ?_
  refine Aa (Ar rfl rfl rfl b24) (Gk (p:=((c22.toNat:Nat):Int)) (q:=122) rfl rfl) ?_
  refine Aa rfl (Bm rfl b24 (v:=(.bool (decide (((c22.toNat:Nat):Int) > 122)))) rfl) ?_
  refine l_M (.bool (decide (((c22.toNat:Nat):Int) > 122))) rfl rfl ?_
  refine Cn (decide (((c22.toNat:Nat):Int) > 122)) (fun b31=>?_) (fun b31=>?_)
  ·have q31:=of_decide_eq_true b31
   refine l_M (.int .u8 (((c22.toNat:Nat):Int))) (Ar rfl rfl rfl b31) rfl ?_
   refine Aa (Ar rfl rfl rfl b31) (Da (p:=((c22.toNat:Nat):Int)) (q:=48) rfl rfl) ?_
   refine l_M (.bool (decide (((c22.toNat:Nat):Int) < 48))) (Ar rfl rfl rfl b31) rfl ?_
   refine Cn (decide (((c22.toNat:Nat):Int) < 48)) (fun b32=>?_) (fun b32=>?_)
   ·have q32:=of_decide_eq_true b32
    refine Ap (Bl rfl rfl rfl b32) ?_
    refine Ap (Bl rfl rfl rfl b32) ?_
    refine Aa (Ar rfl rfl rfl b31) (Bt rfl b32 (v:=(.bool (true))) rfl) ?_
    refine Aa rfl (Bt rfl b31 (v:=(.bool (true))) rfl) ?_
    refine l_M (.bool (true)) rfl rfl ?_
    refine l_M (.int .u8 (((c22.toNat:Nat):Int))) (Ar rfl rfl rfl rfl) rfl ?_
    refine Aa (Ar rfl rfl rfl rfl) (Dg (p:=((c22.toNat:Nat):Int)) (q:=45) rfl rfl) ?_
    refine Aa rfl (Bt rfl rfl (v:=(.bool (((c22.toNat:Nat):Int) != 45))) rfl) ?_
    apply Ac
    apply k23
    refine As (t:=((c22.toNat:Nat):Int) != 45) rfl (fun b33=>?_) (fun b33=>?_)
    ·have q33:=Mb b33
     refine w_q rfl rfl fun K34 k34=>?_
     refine l_A (.bool (false)) rfl rfl ?_
     apply Ac
     apply k34
     refine Aq ?_
     refine hret _ _ _ ?_
     refine ⟨rfl,rfl,Eq.trans (b:=(.bool (false))) rfl ?_⟩
     have hbad:Alz s i = false:=by simp only [Alz,hc22,Pk,b4,b7,b9,b12,b19,b24,b31,b32,b33,Bool.true_and,Bool.false_and,Bool.and_true,Bool.and_false,Bool.true_or,Bool.false_or,Bool.or_true,Bool.or_false,Bool.not_true,Bool.not_false]
     have hall:=okAll_f (by omega) hbad
     simp only [Hi,hall,b4,b7,b9,b12,b19,b24,b31,b32,b33,Bool.true_and,Bool.false_and,Bool.and_true,Bool.and_false,Bool.true_or,Bool.false_or,Bool.or_true,Bool.or_false,Bool.not_true,Bool.not_false]
    have q33:=Jh b33
    refine Al ?_
    apply k20
    refine Ag rfl rfl ?_
    refine Aa rfl (Ah (v:=(iV ((i:Int)))) h16_3) ?_
    refine Aa rfl (Br (p:=(i:Int)) (q:=1) rfl rfl (z:=(((i + 1):Nat):Int)) (Bo (by first | rfl | omega | (push_cast; rfl)) (by omega) (by omega))) ?_
    refine l_A (iV ((((i + 1):Nat):Int))) rfl rfl ?_
    apply Ac
    refine ⟨_,?_,((i + 1)),rfl,rfl,rfl,rfl,h16_0,rfl,(by omega),(Ef p16_1 (by simp only [Alz,hc22,Pk,b4,b7,b9,b12,b19,b24,b31,b32,b33,Bool.true_and,Bool.false_and,Bool.and_true,Bool.and_false,Bool.true_or,Bool.false_or,Bool.or_true,Bool.or_false,Bool.not_true,Bool.not_false])),trivial⟩
    omega
   have q32:=of_decide_eq_false b32
   refine l_M (.int .u8 (((c22.toNat:Nat):Int))) (Ar rfl rfl rfl b32) rfl ?_
   refine Aa (Ar rfl rfl rfl b32) (Gk (p:=((c22.toNat:Nat):Int)) (q:=57) rfl rfl) ?_
   refine Aa (Ar rfl rfl rfl b31) (Bm rfl b32 (v:=(.bool (decide (((c22.toNat:Nat):Int) > 57)))) rfl) ?_
   refine Aa rfl (Bt rfl b31 (v:=(.bool (decide (((c22.toNat:Nat):Int) > 57)))) rfl) ?_
   refine l_M (.bool (decide (((c22.toNat:Nat):Int) > 57))) rfl rfl ?_
   refine Cn (decide (((c22.toNat:Nat):Int) > 57)) (fun b35=>?_) (fun b35=>?_)
   ·have q35:=of_decide_eq_true b35
    refine l_M (.int .u8 (((c22.toNat:Nat):Int))) (Ar rfl rfl rfl b35) rfl ?_
    refine Aa (Ar rfl rfl rfl b35) (Dg (p:=((c22.toNat:Nat):Int)) (q:=45) rfl rfl) ?_
    refine Aa rfl (Bt rfl b35 (v:=(.bool (((c22.toNat:Nat):Int) != 45))) rfl) ?_
    apply Ac
    apply k23
    refine As (t:=((c22.toNat:Nat):Int) != 45) rfl (fun b36=>?_) (fun b36=>?_)
    ·have q36:=Mb b36
     refine w_q rfl rfl fun K37 k37=>?_
     refine l_A (.bool (false)) rfl rfl ?_
     apply Ac
     apply k37
     refine Aq ?_
     refine hret _ _ _ ?_
     refine ⟨rfl,rfl,Eq.trans (b:=(.bool (false))) rfl ?_⟩
     have hbad:Alz s i = false:=by simp only [Alz,hc22,Pk,b4,b7,b9,b12,b19,b24,b31,b32,b35,b36,Bool.true_and,Bool.false_and,Bool.and_true,Bool.and_false,Bool.true_or,Bool.false_or,Bool.or_true,Bool.or_false,Bool.not_true,Bool.not_false]
     have hall:=okAll_f (by omega) hbad
     simp only [Hi,hall,b4,b7,b9,b12,b19,b24,b31,b32,b35,b36,Bool.true_and,Bool.false_and,Bool.and_true,Bool.and_false,Bool.true_or,Bool.false_or,Bool.or_true,Bool.or_false,Bool.not_true,Bool.not_false]
    have q36:=Jh b36
    refine Al ?_
    apply k20
    refine Ag rfl rfl ?_
    refine Aa rfl (Ah (v:=(iV ((i:Int)))) h16_3) ?_
    refine Aa rfl (Br (p:=(i:Int)) (q:=1) rfl rfl (z:=(((i + 1):Nat):Int)) (Bo (by first | rfl | omega | (push_cast; rfl)) (by omega) (by omega))) ?_
    refine l_A (iV ((((i + 1):Nat):Int))) rfl rfl ?_
    apply Ac
    refine ⟨_,?_,((i + 1)),rfl,rfl,rfl,rfl,h16_0,rfl,(by omega),(Ef p16_1 (by simp only [Alz,hc22,Pk,b4,b7,b9,b12,b19,b24,b31,b32,b35,b36,Bool.true_and,Bool.false_and,Bool.and_true,Bool.and_false,Bool.true_or,Bool.false_or,Bool.or_true,Bool.or_false,Bool.not_true,Bool.not_false])),trivial⟩
    omega
   have q35:=of_decide_eq_false b35
   refine Ap (Bl rfl rfl rfl b35) ?_
   refine Ap (Bl rfl rfl rfl b35) ?_
   refine Aa rfl (Bm rfl b35 (v:=(.bool (false))) rfl) ?_
   apply Ac
   apply k23
   refine Cg rfl rfl ?_
   refine Al ?_
   apply k20
   refine Ag rfl rfl ?_
   refine Aa rfl (Ah (v:=(iV ((i:Int)))) h16_3) ?_
   refine Aa rfl (Br (p:=(i:Int)) (q:=1) rfl rfl (z:=(((i + 1):Nat):Int)) (Bo (by first | rfl | omega | (push_cast; rfl)) (by omega) (by omega))) ?_
   refine l_A (iV ((((i + 1):Nat):Int))) rfl rfl ?_
   apply Ac
   refine ⟨_,?_,((i + 1)),rfl,rfl,rfl,rfl,h16_0,rfl,(by omega),(Ef p16_1 (by simp only [Alz,hc22,Pk,b4,b7,b9,b12,b19,b24,b31,b32,b35,Bool.true_and,Bool.false_and,Bool.and_true,Bool.and_false,Bool.true_or,Bool.false_or,Bool.or_true,Bool.or_false,Bool.not_true,Bool.not_false])),trivial⟩
   omega
  have q31:=of_decide_eq_false b31
  refine Ap (Bl rfl rfl rfl b31) ?_
  refine Ap (Bl rfl rfl rfl b31) ?_
  refine Ap (Bl rfl rfl rfl b31) ?_
  refine Ap (Jf rfl rfl rfl) ?_
  refine Ap (Jf rfl rfl rfl) ?_
  refine Ap (Bl rfl rfl rfl b31) ?_
  refine Aa rfl (Bm rfl b31 (v:=(.bool (false))) rfl) ?_
  refine l_M (.bool (false)) rfl rfl ?_
  refine Ap (Bl rfl rfl rfl rfl) ?_
  refine Ap (Bl rfl rfl rfl rfl) ?_
  refine Aa rfl (Bm rfl rfl (v:=(.bool (false))) rfl) ?_
  apply Ac
  apply k23
  refine Cg rfl rfl ?_
  refine Al ?_
  apply k20
  refine Ag rfl rfl ?_
  refine Aa rfl (Ah (v:=(iV ((i:Int)))) h16_3) ?_
  refine Aa rfl (Br (p:=(i:Int)) (q:=1) rfl rfl (z:=(((i + 1):Nat):Int)) (Bo (by first | rfl | omega | (push_cast; rfl)) (by omega) (by omega))) ?_
  refine l_A (iV ((((i + 1):Nat):Int))) rfl rfl ?_
  apply Ac
  refine ⟨_,?_,((i + 1)),rfl,rfl,rfl,rfl,h16_0,rfl,(by omega),(Ef p16_1 (by simp only [Alz,hc22,Pk,b4,b7,b9,b12,b19,b24,b31,Bool.true_and,Bool.false_and,Bool.and_true,Bool.and_false,Bool.true_or,Bool.false_or,Bool.or_true,Bool.or_false,Bool.not_true,Bool.not_false])),trivial⟩
  omega
 have q19:=of_decide_eq_false b19
 refine Bx ?_
 apply k14
 refine w_q rfl rfl fun K38 k38=>?_
 refine l_A (.bool (true)) rfl rfl ?_
 apply Ac
 apply k38
 refine Aq ?_
 refine hret _ _ _ ?_
 refine ⟨rfl,rfl,Eq.trans (b:=(.bool (true))) rfl ?_⟩
 have hall:=okAll_t.2 fun j hj=>p16_1 j (by omega)
 simp only [Hi,Pu,hall,hc8,b4,b7,b9,b12,b19,Bool.true_and,Bool.false_and,Bool.and_true,Bool.and_false,Bool.true_or,Bool.false_or,Bool.or_true,Bool.or_false,Bool.not_true,Bool.not_false]
set_option maxRecDepth 100000 in
theorem c_Find {mn:Bool} {X:Frame→List Frame→Ro→Own→Cy→Prop} {ρ:Ro} {σ:Own} {l:List ByteArray} {vl:Value} {s:ByteArray} (rl:Val ρ vl l):CallsH (CX mn X) 114 #[vl,(.string (s))] ρ σ (fun w ρ' σ'=>ρ' = ρ∧σ' = σ∧w = (iV (Ajt l s))):=by
 refine Bh (n:=19) (args:=[vl,(.string (s))]) [4] Tryd.func114 rfl rfl rfl rfl fun Q hret hnor=>?_
 refine w_q rfl rfl fun K1 k1=>?_
 refine l_A (iV (0)) rfl rfl ?_
 apply Ac
 apply k1
 refine Ai fun K2 k2=>?_
 refine w_q rfl rfl fun K3 k3=>?_
 refine l_A (iV (0)) rfl rfl ?_
 apply Ac
 apply k3
 refine Ao ?_
 refine Cc (fun mm ee dd ρ' σ'=>∃ (i:Nat),(l.length - i) = mm∧[] = dd∧ρ = ρ'∧σ = σ'∧ee 0 = vl∧ee 1 = (.string (s))∧ee 5 = (iV ((i:Int)))∧(i ≤ l.length)∧(∀ j,j < i→Xp l s j = false)∧True) (m:=_) ⟨0,rfl,rfl,rfl,rfl,rfl,rfl,rfl,(Nat.zero_le _),(fun j h=>absurd h (Nat.not_lt_zero _)),trivial⟩ ?_
 rintro m4 e4 _ _ _ ⟨i,rfl,rfl,rfl,rfl,h4_0,h4_1,h4_5,p4_0,p4_1,_⟩
 refine Ai fun K5 k5=>?_
 refine w_q rfl rfl fun K6 k6=>?_
 refine Aa rfl (Ah (v:=(iV ((i:Int)))) h4_5) ?_
 refine Aa rfl (Ah (v:=vl) h4_0) ?_
 have g7:=Val.len rl
 refine Aa rfl (Ce (el:=9) Tryd.underlying22 rfl rl) ?_
 refine Aa rfl (Da (p:=(i:Int)) (q:=((l.length:Nat):Int)) rfl rfl) ?_
 apply Ac
 apply k6
 refine As (t:=decide ((i:Int) < ((l.length:Nat):Int))) rfl (fun b8=>?_) (fun b8=>?_)
 ·have q8:=of_decide_eq_true b8
  refine Al ?_
  apply k5
  refine Ai fun K9 k9=>?_
  refine Ao ?_
  refine w_q rfl rfl fun K10 k10=>?_
  refine Aa rfl (Ah (v:=vl) h4_0) ?_
  refine Aa rfl (Ah (v:=(iV ((i:Int)))) h4_5) ?_
  obtain ⟨a12,ha12⟩:=Ed (xs:=l) (i:=i) (by omega)
  refine Ak rfl (Ci i Tryd.underlying22 ty9 rfl rl (q:=(i:Int)) rfl rfl ha12) fun v11 r11=>?_
  have g13:=At.slen r11
  refine Aa rfl (Oz ty9 rfl r11) ?_
  refine Aa rfl (Ah (v:=(.string (s))) h4_1) ?_
  refine Aa rfl (y_eqs (p:=a12) (q:=s) rfl rfl) ?_
  apply Ac
  apply k10
  refine As (t:=(a12).toList == (s).toList) rfl (fun b14=>?_) (fun b14=>?_)
  ·have q14:=Jo b14
   refine w_q rfl rfl fun K15 k15=>?_
   refine Aa rfl (Ah (v:=(iV ((i:Int)))) h4_5) ?_
   refine l_A (iV ((i:Int))) rfl rfl ?_
   apply Ac
   apply k15
   refine Aq ?_
   refine hret _ _ _ ?_
   refine ⟨rfl,rfl,Eq.trans (b:=(iV ((i:Int)))) rfl ?_⟩
   have hi:=Fg (n:=l.length) p4_1 (by omega) (show Xp l s i = true by simp only [Xp,ha12,b8,b14])
   simp only [Ajt,hi]
  have q14:=La b14
  refine Al ?_
  apply k9
  refine Ag rfl rfl ?_
  refine Aa rfl (Ah (v:=(iV ((i:Int)))) h4_5) ?_
  refine Aa rfl (Br (p:=(i:Int)) (q:=1) rfl rfl (z:=(((i + 1):Nat):Int)) (Bo (by first | rfl | omega | (push_cast; rfl)) (by omega) (by omega))) ?_
  refine l_A (iV ((((i + 1):Nat):Int))) rfl rfl ?_
  apply Ac
  refine ⟨_,?_,((i + 1)),rfl,rfl,rfl,rfl,h4_0,h4_1,rfl,(by omega),(Ef p4_1 (by simp only [Xp,ha12,b8,b14])),trivial⟩
  omega
 have q8:=of_decide_eq_false b8
 refine Bx ?_
 apply k2
 refine w_q rfl rfl fun K16 k16=>?_
 refine l_A (iV ((-1))) rfl rfl ?_
 apply Ac
 apply k16
 refine Aq ?_
 refine hret _ _ _ ?_
 refine ⟨rfl,rfl,Eq.trans (b:=(iV ((-1)))) rfl ?_⟩
 have hn:=Ep (n:=l.length) fun j hj=>p4_1 j (by omega)
 simp only [Ajt,hn]
set_option maxRecDepth 100000 in
theorem c_names {mn:Bool} {X:Frame→List Frame→Ro→Own→Cy→Prop} {ρ:Ro} {σ:Own} {l:List ByteArray} {vl:Value} {most:Int} (rl:Val ρ vl l):CallsH (CX mn X) 77 #[vl,(iV (most))] ρ σ (fun w ρ' σ'=>ρ' = ρ∧σ' = σ∧w = (iV (Dd l most))):=by
 refine Bh (n:=31) (args:=[vl,(iV (most))]) [4] Tryd.func77 rfl rfl rfl rfl fun Q hret hnor=>?_
 refine w_q rfl rfl fun K1 k1=>?_
 refine l_A (iV (0)) rfl rfl ?_
 apply Ac
 apply k1
 refine Ai fun K2 k2=>?_
 refine w_q rfl rfl fun K3 k3=>?_
 refine l_M vl rfl rfl ?_
 have g4:=Val.len rl
 refine Aa rfl (Ce (el:=9) Tryd.underlying22 rfl rl) ?_
 refine l_M (iV (most)) rfl rfl ?_
 refine Aa rfl (Gk (p:=((l.length:Nat):Int)) (q:=most) rfl rfl) ?_
 apply Ac
 apply k3
 refine As (t:=decide (((l.length:Nat):Int) > most)) rfl (fun b5=>?_) (fun b5=>?_)
 ·have q5:=of_decide_eq_true b5
  refine w_q rfl rfl fun K6 k6=>?_
  refine l_A (iV (2)) rfl rfl ?_
  apply Ac
  apply k6
  refine Aq ?_
  refine hret _ _ _ ?_
  refine ⟨rfl,rfl,Eq.trans (b:=(iV (2))) rfl ?_⟩
  rw [Dd,if_pos (by omega)]
 have q5:=of_decide_eq_false b5
 refine Al ?_
 apply k2
 refine Ai fun K7 k7=>?_
 refine w_q rfl rfl fun K8 k8=>?_
 refine l_A (iV (0)) rfl rfl ?_
 apply Ac
 apply k8
 refine Ao ?_
 refine Cc (fun mm ee dd ρ' σ'=>∃ (i:Nat),(l.length - i) = mm∧[] = dd∧ρ = ρ'∧σ = σ'∧ee 0 = vl∧ee 5 = (iV ((i:Int)))∧(i ≤ l.length)∧(∀ j,j < i→Nh l j = 0)∧True) (m:=_) ⟨0,rfl,rfl,rfl,rfl,rfl,rfl,(Nat.zero_le _),(fun j h=>absurd h (Nat.not_lt_zero _)),trivial⟩ ?_
 rintro m9 e9 _ _ _ ⟨i,rfl,rfl,rfl,rfl,h9_0,h9_5,p9_0,p9_1,_⟩
 refine Ai fun K10 k10=>?_
 refine w_q rfl rfl fun K11 k11=>?_
 refine Aa rfl (Ah (v:=(iV ((i:Int)))) h9_5) ?_
 refine Aa rfl (Ah (v:=vl) h9_0) ?_
 have g12:=Val.len rl
 refine Aa rfl (Ce (el:=9) Tryd.underlying22 rfl rl) ?_
 refine Aa rfl (Da (p:=(i:Int)) (q:=((l.length:Nat):Int)) rfl rfl) ?_
 apply Ac
 apply k11
 refine As (t:=decide ((i:Int) < ((l.length:Nat):Int))) rfl (fun b13=>?_) (fun b13=>?_)
 ·have q13:=of_decide_eq_true b13
  refine Al ?_
  apply k10
  refine Ai fun K14 k14=>?_
  refine Ao ?_
  refine Ai fun K15 k15=>?_
  refine w_q rfl rfl fun K16 k16=>?_
  refine Aa rfl (Ah (v:=vl) h9_0) ?_
  refine Aa rfl (Ah (v:=(iV ((i:Int)))) h9_5) ?_
  obtain ⟨a18,ha18⟩:=Ed (xs:=l) (i:=i) (by omega)
  refine Ak rfl (Ci i Tryd.underlying22 ty9 rfl rl (q:=(i:Int)) rfl rfl ha18) fun v17 r17=>?_
  have g19:=At.slen r17
  refine Aa rfl (Oz ty9 rfl r17) ?_
  refine Ae rfl (Bn (vs:=[(.string (a18))]) (v:=(.bool (Hi a18))) (c_Name) Tryd.func78 rfl rfl ⟨rfl,trivial⟩ ?_)
  refine Aa rfl (Ix (k:=Hi a18) rfl) ?_
  apply Ac
  apply k16
  refine As (t:=!(Hi a18)) rfl (fun b20=>?_) (fun b20=>?_)
  ·have b21:=not_eq_t b20
   refine w_q rfl rfl fun K22 k22=>?_
   refine l_A (iV (4)) rfl rfl ?_
   apply Ac
   apply k22
   refine Aq ?_
   refine hret _ _ _ ?_
   refine ⟨rfl,rfl,Eq.trans (b:=(iV (4))) rfl ?_⟩
   have hf:Nh l i = 4:=by simp only [Nh,ha18,b5,b13,b20,b21]; first | rfl | omega | (simp; done) | (simp; omega)
   rw [Dd,if_neg (by omega),Db p9_1 (by omega) hf (by omega)]
  have b23:=not_eq_f b20
  refine Al ?_
  apply k15
  refine Ai fun K24 k24=>?_
  refine Dc [0,1,2,3,4,5,6,7,8] (by kernel_rfl) rfl rfl ?_
  refine Be (i:=0) Aov rfl (by kernel_rfl) rfl Ary rfl (Ah (v:=vl) h9_0) ?_
  refine Be (i:=1) Aof rfl (by kernel_rfl) rfl Ary rfl (Ah (v:=(iV ((i:Int)))) h9_5) ?_
  refine Cd (i:=2) Apd rfl (by kernel_rfl) rfl Ary rfl (y_slice_hi i Tryd.underlying22 ty9 rfl rl (q:=(i:Int)) rfl rfl (by omega)) fun v25 r25=>?_
  refine Be (i:=3) Anf rfl (by kernel_rfl) rfl Ary rfl (Ah (v:=vl) h9_0) ?_
  refine Bg (i:=4) Aon rfl (by kernel_rfl) rfl Ary rfl (Ah (v:=(iV ((i:Int)))) h9_5) ?_
  refine Hl (i:=5) Aob rfl (by kernel_rfl) rfl Ary rfl (Ci i Tryd.underlying22 ty9 rfl rl (q:=(i:Int)) rfl rfl ha18) fun v26 r26=>?_
  have g27:=At.slen r26
  refine Bg (i:=6) Aow rfl (by kernel_rfl) rfl Ary rfl (Oz ty9 rfl r26) ?_
  refine Dj (i:=7) Anz rfl (by kernel_rfl) rfl rfl (Bn (vs:=[v25,(.string (a18))]) (v:=(iV (Ajt ((l.take i)) a18))) (c_Find r25) Tryd.func114 rfl rfl ⟨rfl,rfl,trivial⟩ ⟨Ary,?_⟩)
  refine Bg (i:=8) Anb rfl (by kernel_rfl) rfl Ary rfl (Uv (p:=Ajt ((l.take i)) a18) (q:=0) rfl rfl) ?_
  refine Ec rfl ?_
  apply k24
  refine As (t:=decide (Ajt ((l.take i)) a18 ≥ 0)) rfl (fun b28=>?_) (fun b28=>?_)
  ·have q28:=of_decide_eq_true b28
   refine w_q rfl rfl fun K29 k29=>?_
   refine l_A (iV (5)) rfl rfl ?_
   apply Ac
   apply k29
   refine Aq ?_
   refine hret _ _ _ ?_
   refine ⟨rfl,rfl,Eq.trans (b:=(iV (5))) rfl ?_⟩
   have hf:Nh l i = 5:=by simp only [Nh,ha18,b5,b13,b20,b23,b28]; first | rfl | omega | (simp; done) | (simp; omega)
   rw [Dd,if_neg (by omega),Db p9_1 (by omega) hf (by omega)]
  have q28:=of_decide_eq_false b28
  refine Al ?_
  apply k14
  refine Ag rfl rfl ?_
  refine Aa rfl (Ah (v:=(iV ((i:Int)))) h9_5) ?_
  refine Aa rfl (Br (p:=(i:Int)) (q:=1) rfl rfl (z:=(((i + 1):Nat):Int)) (Bo (by first | rfl | omega | (push_cast; rfl)) (by omega) (by omega))) ?_
  refine l_A (iV ((((i + 1):Nat):Int))) rfl rfl ?_
  apply Ac
  refine ⟨_,?_,((i + 1)),rfl,rfl,rfl,rfl,h9_0,rfl,(by omega),(Ef p9_1 (by simp only [Nh,ha18,b5,b13,b20,b23,b28]; first | rfl | omega | (simp; done) | (simp; omega))),trivial⟩
  omega
 have q13:=of_decide_eq_false b13
 refine Bx ?_
 apply k7
 refine w_q rfl rfl fun K30 k30=>?_
 refine l_A (iV (0)) rfl rfl ?_
 apply Ac
 apply k30
 refine Aq ?_
 refine hret _ _ _ ?_
 refine ⟨rfl,rfl,Eq.trans (b:=(iV (0))) rfl ?_⟩
 rw [Dd,if_neg (by omega),Fb fun j hj=>p9_1 j (by omega)]
end Go.Proofs.YtoefdnbaklajeaaDoor

namespace Go.Proofs.YtoefdnbaklajeaaDoor
open Go
theorem testIs_none {l:Lab} {i:Nat} {s:ByteArray} (h:∀ j,j < i→Rm l s j = false):(Cl i (Rm l s)).isSome = false:=Fs.2 h
theorem testIs_some {l:Lab} {i k:Nat} {s:ByteArray} (hk:k < i) (h:Rm l s k = true):(Cl i (Rm l s)).isSome = true:=by
  cases hh:(Cl i (Rm l s)).isSome with
  | true=>rfl
  | false=>rw [Fs.1 hh k hk] at h; cases h
end Go.Proofs.YtoefdnbaklajeaaDoor

namespace Go.Proofs.YtoefdnbaklajeaaDoor
open Go
set_option maxRecDepth 100000 in
theorem c_refCheckLab {mn:Bool} {X:Frame→List Frame→Ro→Own→Cy→Prop} {ρ:Ro} {σ:Own} {l:Lab} {vl:Value} (rl:Val ρ vl l):CallsH (CX mn X) 39 #[vl] ρ σ (fun w ρ' σ'=>ρ' = ρ∧σ' = σ∧w = (iV (Gj l))):=by
 refine Bh (n:=83) (args:=[vl]) [2] Tryd.func39 rfl rfl rfl rfl fun Q hret hnor=>?_
 refine w_q rfl rfl fun K1 k1=>?_
 refine Ae rfl (Eb (v:=vl) rfl fun k2=>?_)
 refine Bb (a:=l) rl fun ρ2 l2 r2=>?_
 replace rl:=Asa l2 rl
 refine l_A (iV (0)) rfl rfl ?_
 apply Ac
 apply k1
 refine Ai fun K3 k3=>?_
 refine w_q rfl rfl fun K4 k4=>?_
 refine Ak rfl (Ay Lab.f_kinds Tryd.underlying40 rfl rfl Hu (by decide) rfl r2) fun v5 r5=>?_
 refine Ak rfl (Ax Hu rfl r5) fun v6 r6=>?_
 refine Ae rfl (Bn (vs:=[v6,(iV (4))]) (v:=(iV (Dd l.kinds 4))) (c_names r6) Tryd.func77 rfl rfl ⟨rfl,rfl,trivial⟩ ?_)
 refine l_A (iV (Dd l.kinds 4)) rfl rfl ?_
 apply Ac
 apply k4
 refine w_q rfl rfl fun K7 k7=>?_
 refine l_M (iV (Dd l.kinds 4)) rfl rfl ?_
 refine Aa rfl (Dg (p:=Dd l.kinds 4) (q:=0) rfl rfl) ?_
 apply Ac
 apply k7
 refine As (t:=Dd l.kinds 4 != 0) rfl (fun b8=>?_) (fun b8=>?_)
 ·have q8:=Mb b8
  refine w_q rfl rfl fun K9 k9=>?_
  refine l_M (iV (Dd l.kinds 4)) rfl rfl ?_
  refine l_A (iV (Dd l.kinds 4)) rfl rfl ?_
  apply Ac
  apply k9
  refine Aj (Arw l2) ?_
  refine Aq ?_
  refine hret _ _ _ ?_
  refine ⟨rfl,rfl,Eq.trans (b:=(iV (Dd l.kinds 4))) rfl ?_⟩
  rw [Gj,Rx q8]
 have q8:=Jh b8
 refine Al ?_
 apply k3
 refine Ai fun K10 k10=>?_
 refine w_q rfl rfl fun K11 k11=>?_
 refine Ak rfl (Ay Lab.f_most Tryd.underlying40 rfl rfl ty3 (by decide) rfl r2) fun v12 r12=>?_
 have ⟨g13a,g13b⟩:=At.rng r12
 refine Aa rfl (Bc ty3 rfl r12) ?_
 refine Ak rfl (Ay Lab.f_kinds Tryd.underlying40 rfl rfl Hu (by decide) rfl r2) fun v14 r14=>?_
 refine Ak rfl (Ax Hu rfl r14) fun v15 r15=>?_
 have g16:=Val.len r15
 refine Aa rfl (Ce (el:=9) Tryd.underlying22 rfl r15) ?_
 refine Ae rfl (Bn (vs:=[(iV (l.most)),(iV (0)),(iV (((l.kinds.length:Nat):Int)))]) (v:=(.bool (inR l.most 0 (((l.kinds.length:Nat):Int))))) (c_In) Tryd.func79 rfl rfl ⟨rfl,rfl,rfl,trivial⟩ ?_)
 refine Aa rfl (Ix (k:=inR l.most 0 (((l.kinds.length:Nat):Int))) rfl) ?_
 apply Ac
 apply k11
 refine As (t:=!(inR l.most 0 (((l.kinds.length:Nat):Int)))) rfl (fun b17=>?_) (fun b17=>?_)
 ·have b18:=not_eq_t b17
  have q18:=Ui.1 b18
  refine w_q rfl rfl fun K19 k19=>?_
  refine l_A (iV (1)) rfl rfl ?_
  apply Ac
  apply k19
  refine Aj (Arw l2) ?_
  refine Aq ?_
  refine hret _ _ _ ?_
  refine ⟨rfl,rfl,Eq.trans (b:=(iV (1))) rfl ?_⟩
  have hi:inR l.most 0 (l.kinds.length:Int) = false:=Ui.2 q18
  rw [Gj,Gt q8,Jw,hi]; rfl
 have b20:=not_eq_f b17
 have q20:=Ge.1 b20
 refine Al ?_
 apply k10
 refine Ai fun K21 k21=>?_
 refine w_q rfl rfl fun K22 k22=>?_
 refine Ak rfl (Ay Lab.f_tests Tryd.underlying40 rfl rfl Vd (by decide) rfl r2) fun v23 r23=>?_
 refine Ak rfl (Ax Vd rfl r23) fun v24 r24=>?_
 have g25:=Val.len r24
 refine Aa rfl (Ce (el:=108) Tryd.underlying38 rfl r24) ?_
 refine Aa rfl (Gk (p:=((l.tests.length:Nat):Int)) (q:=5) rfl rfl) ?_
 apply Ac
 apply k22
 refine As (t:=decide (((l.tests.length:Nat):Int) > 5)) rfl (fun b26=>?_) (fun b26=>?_)
 ·have q26:=of_decide_eq_true b26
  refine w_q rfl rfl fun K27 k27=>?_
  refine l_A (iV (2)) rfl rfl ?_
  apply Ac
  apply k27
  refine Aj (Arw l2) ?_
  refine Aq ?_
  refine hret _ _ _ ?_
  refine ⟨rfl,rfl,Eq.trans (b:=(iV (2))) rfl ?_⟩
  have hi:inR l.most 0 (l.kinds.length:Int) = true:=Ge.2 q20
  rw [Gj,Gt q8,Jw,hi,if_pos rfl,if_pos (by omega)]
 have q26:=of_decide_eq_false b26
 refine Al ?_
 apply k21
 refine Ai fun K28 k28=>?_
 refine w_q rfl rfl fun K29 k29=>?_
 refine l_A (iV (0)) rfl rfl ?_
 apply Ac
 apply k29
 refine Ao ?_
 refine Cc (fun mm ee dd ρ' σ'=>∃ (i:Nat),(l.tests.length - i) = mm∧[] = dd∧ρ2 = ρ'∧σ = σ'∧ee 1 = (.pointer (some ⟨k2,0,none⟩))∧ee 4 = (iV ((i:Int)))∧(i ≤ l.tests.length)∧(∀ j,j < i→Gz l j = 0)∧True) (m:=_) ⟨0,rfl,rfl,rfl,rfl,rfl,rfl,(Nat.zero_le _),(fun j h=>absurd h (Nat.not_lt_zero _)),trivial⟩ ?_
 rintro m30 e30 _ _ _ ⟨i,rfl,rfl,rfl,rfl,h30_1,h30_4,p30_0,p30_1,_⟩
 refine Ai fun K31 k31=>?_
 refine w_q rfl rfl fun K32 k32=>?_
 refine Aa rfl (Ah (v:=(iV ((i:Int)))) h30_4) ?_
 refine Ak rfl (Ay Lab.f_tests Tryd.underlying40 rfl rfl Vd (by decide) h30_1 r2) fun v33 r33=>?_
 refine Ak rfl (Ax Vd rfl r33) fun v34 r34=>?_
 have g35:=Val.len r34
 refine Aa rfl (Ce (el:=108) Tryd.underlying38 rfl r34) ?_
 refine Aa rfl (Da (p:=(i:Int)) (q:=((l.tests.length:Nat):Int)) rfl rfl) ?_
 apply Ac
 apply k32
 refine As (t:=decide ((i:Int) < ((l.tests.length:Nat):Int))) rfl (fun b36=>?_) (fun b36=>?_)
 ·have q36:=of_decide_eq_true b36
  refine Al ?_
  apply k31
  refine Ai fun K37 k37=>?_
  refine Ao ?_
  refine w_q rfl rfl fun K38 k38=>?_
  refine Ak rfl (Ay Lab.f_tests Tryd.underlying40 rfl rfl Vd (by decide) h30_1 r2) fun v39 r39=>?_
  refine Ak rfl (Ax Vd rfl r39) fun v40 r40=>?_
  refine Aa rfl (Ah (v:=(iV ((i:Int)))) h30_4) ?_
  obtain ⟨a42,ha42⟩:=Ed (xs:=l.tests) (i:=i) (by omega)
  refine Ak rfl (Ci i Tryd.underlying38 Td rfl r40 (q:=(i:Int)) rfl rfl ha42) fun v41 r41=>?_
  refine Ak rfl (Ax Td rfl r41) fun v43 r43=>?_
  refine Ae rfl (Ct Vm fun k44=>?_)
  refine Cx rfl (Du (v:=v43) (a:=a42) (c:=Aaf) Td rfl rfl r43 rfl ?_)
  refine Bb (a:=a42) r43 fun ρ45 l45 r45=>?_
  replace r2:=Arv l45 r2
  replace r39:=Arv l45 r39
  replace r40:=Asa l45 r40
  replace r41:=Arv l45 r41
  replace r43:=Asa l45 r43
  apply Ac
  apply k38
  refine Ai fun K46 k46=>?_
  refine w_q rfl rfl fun K47 k47=>?_
  refine Ak rfl (Ay FTest.f_name Tryd.underlying108 rfl rfl ty9 (by decide) rfl r45) fun v48 r48=>?_
  have g49:=At.slen r48
  refine Aa rfl (Oz ty9 rfl r48) ?_
  refine Ae rfl (Bn (vs:=[(.string (a42.name))]) (v:=(.bool (Hi a42.name))) (c_Name) Tryd.func78 rfl rfl ⟨rfl,trivial⟩ ?_)
  refine Aa rfl (Ix (k:=Hi a42.name) rfl) ?_
  apply Ac
  apply k47
  refine As (t:=!(Hi a42.name)) rfl (fun b50=>?_) (fun b50=>?_)
  ·have b51:=not_eq_t b50
   refine w_q rfl rfl fun K52 k52=>?_
   refine l_A (iV (4)) rfl rfl ?_
   apply Ac
   apply k52
   refine Aj (Arw (Arz l2 l45)) ?_
   refine Aq ?_
   refine hret _ _ _ ?_
   refine ⟨rfl,rfl,Eq.trans (b:=(iV (4))) rfl ?_⟩
   have hi:inR l.most 0 (l.kinds.length:Int) = true:=Ge.2 q20
   have hf:Gz l i = 4:=by
    simp [Gz,ha42,b8,b17,b20,b26,b36,b50,b51]
   rw [Gj,Gt q8,Jw,hi,if_pos rfl,if_neg (by omega),Db p30_1 (by omega) hf (by omega)]
  have b53:=not_eq_f b50
  refine Al ?_
  apply k46
  refine Ai fun K54 k54=>?_
  refine w_q rfl rfl fun K55 k55=>?_
  refine l_A (iV (0)) rfl rfl ?_
  apply Ac
  apply k55
  refine Ao ?_
  refine Cc (fun mm ee dd ρ' σ'=>∃ (k:Nat),(i - k) = mm∧[] = dd∧ρ45 = ρ'∧σ = σ'∧ee 1 = (.pointer (some ⟨k2,0,none⟩))∧ee 4 = (iV ((i:Int)))∧ee 5 = (.pointer (some ⟨k44,0,none⟩))∧ee 6 = (iV ((k:Int)))∧(k ≤ i)∧(∀ j,j < k→Rm l a42.name j = false)∧True) (m:=_) ⟨0,rfl,rfl,rfl,rfl,h30_1,h30_4,rfl,rfl,(Nat.zero_le _),(fun j h=>absurd h (Nat.not_lt_zero _)),trivial⟩ ?_
  rintro m56 e56 _ _ _ ⟨k,rfl,rfl,rfl,rfl,h56_1,h56_4,h56_5,h56_6,p56_0,p56_1,_⟩
  refine Ai fun K57 k57=>?_
  refine w_q rfl rfl fun K58 k58=>?_
  refine Aa rfl (Ah (v:=(iV ((k:Int)))) h56_6) ?_
  refine Aa rfl (Ah (v:=(iV ((i:Int)))) h56_4) ?_
  refine Aa rfl (Da (p:=(k:Int)) (q:=(i:Int)) rfl rfl) ?_
  apply Ac
  apply k58
  refine As (t:=decide ((k:Int) < (i:Int))) rfl (fun b59=>?_) (fun b59=>?_)
  ·have q59:=of_decide_eq_true b59
   refine Al ?_
   apply k57
   refine Ai fun K60 k60=>?_
   refine Ao ?_
   refine Ai fun K61 k61=>?_
   refine Dc [0,1,2,3,4,5,6,7,8] (by kernel_rfl) rfl rfl ?_
   refine Cd (i:=0) Aov rfl (by kernel_rfl) rfl Ary rfl (Ay Lab.f_tests Tryd.underlying40 rfl rfl Vd (by decide) h56_1 r2) fun v62 r62=>?_
   refine Cd (i:=1) Aof rfl (by kernel_rfl) rfl Ary rfl (Ax Vd rfl r62) fun v63 r63=>?_
   refine Be (i:=2) Apd rfl (by kernel_rfl) rfl Ary rfl (Ah (v:=(iV ((k:Int)))) h56_6) ?_
   obtain ⟨a65,ha65⟩:=Ed (xs:=l.tests) (i:=k) (by omega)
   refine Cd (i:=3) Anf rfl (by kernel_rfl) rfl Ary rfl (Ci k Tryd.underlying38 Td rfl r63 (q:=(k:Int)) rfl rfl ha65) fun v64 r64=>?_
   refine Cd (i:=4) Aon rfl (by kernel_rfl) rfl Ary rfl (Ay FTest.f_name Tryd.underlying108 rfl rfl ty9 (by decide) rfl r64) fun v66 r66=>?_
   have g67:=At.slen r66
   refine Be (i:=5) Aob rfl (by kernel_rfl) rfl Ary rfl (Oz ty9 rfl r66) ?_
   refine Hl (i:=6) Aow rfl (by kernel_rfl) rfl Ary rfl (Ay FTest.f_name Tryd.underlying108 rfl rfl ty9 (by decide) h56_5 r45) fun v68 r68=>?_
   have g69:=At.slen r68
   refine Bg (i:=7) Anz rfl (by kernel_rfl) rfl Ary rfl (Oz ty9 rfl r68) ?_
   refine Bg (i:=8) Anb rfl (by kernel_rfl) rfl Ary rfl (y_eqs (p:=a65.name) (q:=a42.name) rfl rfl) ?_
   refine Ec rfl ?_
   apply k61
   refine As (t:=(a65.name).toList == (a42.name).toList) rfl (fun b70=>?_) (fun b70=>?_)
   ·have q70:=Jo b70
    refine w_q rfl rfl fun K71 k71=>?_
    refine l_A (iV (5)) rfl rfl ?_
    apply Ac
    apply k71
    refine Aj (Arw (Arz l2 l45)) ?_
    refine Aq ?_
    refine hret _ _ _ ?_
    refine ⟨rfl,rfl,Eq.trans (b:=(iV (5))) rfl ?_⟩
    have hi:inR l.most 0 (l.kinds.length:Int) = true:=Ge.2 q20
    have hf:Gz l i = 5:=by
     have htw:=testIs_some (show k < i by omega) (show Rm l a42.name k = true by simp [Rm,ha65,b8,b17,b20,b26,b36,b50,b53,b59,b70,q8,q20,q26,q36,q59,q70])
     simp [Gz,ha42,htw,b8,b17,b20,b26,b36,b50,b53,b59,b70]
    rw [Gj,Gt q8,Jw,hi,if_pos rfl,if_neg (by omega),Db p30_1 (by omega) hf (by omega)]
   have q70:=La b70
   refine Al ?_
   apply k60
   refine Ag rfl rfl ?_
   refine Aa rfl (Ah (v:=(iV ((k:Int)))) h56_6) ?_
   refine Aa rfl (Br (p:=(k:Int)) (q:=1) rfl rfl (z:=(((k + 1):Nat):Int)) (Bo (by first | rfl | omega | (push_cast; rfl)) (by omega) (by omega))) ?_
   refine l_A (iV ((((k + 1):Nat):Int))) rfl rfl ?_
   apply Ac
   refine ⟨_,?_,((k + 1)),rfl,rfl,rfl,rfl,h56_1,h56_4,h56_5,rfl,(by omega),(Ef p56_1 (by simp [Rm,ha65,b8,b17,b20,b26,b36,b50,b53,b59,b70,q8,q20,q26,q36,q59,q70])),trivial⟩
   omega
  have q59:=of_decide_eq_false b59
  refine Bx ?_
  apply k54
  refine Ai fun K72 k72=>?_
  refine w_q rfl rfl fun K73 k73=>?_
  refine Ak rfl (Ay FTest.f_sees Tryd.underlying108 rfl rfl Aex (by decide) h56_5 r45) fun v74 r74=>?_
  refine Ak rfl (Ax Aex rfl r74) fun v75 r75=>?_
  have g76:=Val.len r75
  refine Aa rfl (Ce (el:=53) Tryd.underlying46 rfl r75) ?_
  refine Ak rfl (Ay Lab.f_kinds Tryd.underlying40 rfl rfl Hu (by decide) h56_1 r2) fun v77 r77=>?_
  refine Ak rfl (Ax Hu rfl r77) fun v78 r78=>?_
  have g79:=Val.len r78
  refine Aa rfl (Ce (el:=9) Tryd.underlying22 rfl r78) ?_
  refine Aa rfl (Dg (p:=((a42.sees.length:Nat):Int)) (q:=((l.kinds.length:Nat):Int)) rfl rfl) ?_
  apply Ac
  apply k73
  refine As (t:=((a42.sees.length:Nat):Int) != ((l.kinds.length:Nat):Int)) rfl (fun b80=>?_) (fun b80=>?_)
  ·have q80:=Mb b80
   refine w_q rfl rfl fun K81 k81=>?_
   refine l_A (iV (2)) rfl rfl ?_
   apply Ac
   apply k81
   refine Aj (Arw (Arz l2 l45)) ?_
   refine Aq ?_
   refine hret _ _ _ ?_
   refine ⟨rfl,rfl,Eq.trans (b:=(iV (2))) rfl ?_⟩
   have hi:inR l.most 0 (l.kinds.length:Int) = true:=Ge.2 q20
   have hf:Gz l i = 2:=by
    have htw:=(testIs_none fun j hj=>p56_1 j (by omega):(Cl i (Rm l a42.name)).isSome = false)
    simp only [Gz,ha42,htw,b8,b17,b20,b26,b36,b50,b53,b59,b80,if_true,Bool.false_eq_true,if_false]
    rw [if_neg (by omega)]
   rw [Gj,Gt q8,Jw,hi,if_pos rfl,if_neg (by omega),Db p30_1 (by omega) hf (by omega)]
  have q80:=Jh b80
  refine Al ?_
  apply k72
  refine w_q rfl rfl fun K82 k82=>?_
  refine l_A (iV (0)) rfl rfl ?_
  apply Ac
  apply k82
  refine Ao ?_
  refine Cc (fun mm ee dd ρ' σ'=>∃ (q:Nat),(a42.sees.length - q) = mm∧[] = dd∧ρ45 = ρ'∧σ = σ'∧ee 1 = (.pointer (some ⟨k2,0,none⟩))∧ee 4 = (iV ((i:Int)))∧ee 5 = (.pointer (some ⟨k44,0,none⟩))∧ee 7 = (iV ((q:Int)))∧(q ≤ a42.sees.length)∧(∀ j,j < q→Nb a42 j = 0)∧True) (m:=_) ⟨0,rfl,rfl,rfl,rfl,h56_1,h56_4,h56_5,rfl,(Nat.zero_le _),(fun j h=>absurd h (Nat.not_lt_zero _)),trivial⟩ ?_
  rintro m83 e83 _ _ _ ⟨q,rfl,rfl,rfl,rfl,h83_1,h83_4,h83_5,h83_7,p83_0,p83_1,_⟩
  refine Ai fun K84 k84=>?_
  refine w_q rfl rfl fun K85 k85=>?_
  refine Aa rfl (Ah (v:=(iV ((q:Int)))) h83_7) ?_
  refine Ak rfl (Ay FTest.f_sees Tryd.underlying108 rfl rfl Aex (by decide) h83_5 r45) fun v86 r86=>?_
  refine Ak rfl (Ax Aex rfl r86) fun v87 r87=>?_
  have g88:=Val.len r87
  refine Aa rfl (Ce (el:=53) Tryd.underlying46 rfl r87) ?_
  refine Aa rfl (Da (p:=(q:Int)) (q:=((a42.sees.length:Nat):Int)) rfl rfl) ?_
  apply Ac
  apply k85
  refine As (t:=decide ((q:Int) < ((a42.sees.length:Nat):Int))) rfl (fun b89=>?_) (fun b89=>?_)
  ·have q89:=of_decide_eq_true b89
   refine Al ?_
   apply k84
   refine Ai fun K90 k90=>?_
   refine Ao ?_
   refine w_q rfl rfl fun K91 k91=>?_
   refine Ak rfl (Ay FTest.f_sees Tryd.underlying108 rfl rfl Aex (by decide) h83_5 r45) fun v92 r92=>?_
   refine Ak rfl (Ax Aex rfl r92) fun v93 r93=>?_
   refine Aa rfl (Ah (v:=(iV ((q:Int)))) h83_7) ?_
   obtain ⟨a95,ha95⟩:=Ed (xs:=a42.sees) (i:=q) (by omega)
   refine Ak rfl (Ci q Tryd.underlying46 Ov rfl r93 (q:=(q:Int)) rfl rfl ha95) fun v94 r94=>?_
   have ⟨g96a,g96b⟩:=At.rng r94
   refine Aa rfl (Bc Ov rfl r94) ?_
   refine Aa rfl (Da (p:=a95) (q:=0) rfl rfl) ?_
   refine l_M (.bool (decide (a95 < 0))) rfl rfl ?_
   refine Cn (decide (a95 < 0)) (fun b97=>?_) (fun b97=>?_)
   ·have q97:=of_decide_eq_true b97
    refine Ap (Bl rfl rfl rfl b97) ?_
    refine Ap (Bl rfl rfl rfl b97) ?_
    refine Ap (Bl rfl rfl rfl b97) ?_
    refine Ap (Bl rfl rfl rfl b97) ?_
    refine Ap (Bl rfl rfl rfl b97) ?_
    refine Ap (Bl rfl rfl rfl b97) ?_
    refine Aa rfl (Bt rfl b97 (v:=(.bool (true))) rfl) ?_
    apply Ac
    apply k91
    refine Co rfl rfl ?_
    refine w_q rfl rfl fun K98 k98=>?_
    refine l_A (iV (1)) rfl rfl ?_
    apply Ac
    apply k98
    refine Aj (Arw (Arz l2 l45)) ?_
    refine Aq ?_
    refine hret _ _ _ ?_
    refine ⟨rfl,rfl,Eq.trans (b:=(iV (1))) rfl ?_⟩
    have hi:inR l.most 0 (l.kinds.length:Int) = true:=Ge.2 q20
    have hf:Gz l i = 1:=by
     have htw:=(testIs_none fun j hj=>p56_1 j (by omega):(Cl i (Rm l a42.name)).isSome = false)
     have hq:Nb a42 q = 1:=by simp only [Nb,ha95,b8,b17,b20,b26,b36,b50,b53,b59,b80,b89,b97,Bool.true_and,Bool.false_and,Bool.and_true,Bool.and_false,Bool.true_or,Bool.false_or,Bool.or_true,Bool.or_false,Bool.not_true,Bool.not_false]; rfl
     simp only [Gz,ha42,htw,b8,b17,b20,b26,b36,b50,b53,b59,b80,b89,b97,if_true,Bool.false_eq_true,if_false]
     rw [if_pos (by omega),Db p83_1 (by omega) hq (by omega)]
    rw [Gj,Gt q8,Jw,hi,if_pos rfl,if_neg (by omega),Db p30_1 (by omega) hf (by omega)]
   have q97:=of_decide_eq_false b97
   refine Ak (Ar rfl rfl rfl b97) (Ay FTest.f_sees Tryd.underlying108 rfl rfl Aex (by decide) h83_5 r45) fun v99 r99=>?_
   refine Ak (Ar rfl rfl rfl b97) (Ax Aex rfl r99) fun v100 r100=>?_
   refine Aa (Ar rfl rfl rfl b97) (Ah (v:=(iV ((q:Int)))) h83_7) ?_
   refine Ak (Ar rfl rfl rfl b97) (Ci q Tryd.underlying46 Ov rfl r100 (q:=(q:Int)) rfl rfl ha95) fun v101 r101=>?_
   have ⟨g102a,g102b⟩:=At.rng r101
   refine Aa (Ar rfl rfl rfl b97) (Bc Ov rfl r101) ?_
   refine Aa (Ar rfl rfl rfl b97) (Gk (p:=a95) (q:=2) rfl rfl) ?_
   refine Aa rfl (Bm rfl b97 (v:=(.bool (decide (a95 > 2)))) rfl) ?_
   apply Ac
   apply k91
   refine As (t:=decide (a95 > 2)) rfl (fun b103=>?_) (fun b103=>?_)
   ·have q103:=of_decide_eq_true b103
    refine w_q rfl rfl fun K104 k104=>?_
    refine l_A (iV (1)) rfl rfl ?_
    apply Ac
    apply k104
    refine Aj (Arw (Arz l2 l45)) ?_
    refine Aq ?_
    refine hret _ _ _ ?_
    refine ⟨rfl,rfl,Eq.trans (b:=(iV (1))) rfl ?_⟩
    have hi:inR l.most 0 (l.kinds.length:Int) = true:=Ge.2 q20
    have hf:Gz l i = 1:=by
     have htw:=(testIs_none fun j hj=>p56_1 j (by omega):(Cl i (Rm l a42.name)).isSome = false)
     have hq:Nb a42 q = 1:=by simp only [Nb,ha95,b8,b17,b20,b26,b36,b50,b53,b59,b80,b89,b97,b103,Bool.true_and,Bool.false_and,Bool.and_true,Bool.and_false,Bool.true_or,Bool.false_or,Bool.or_true,Bool.or_false,Bool.not_true,Bool.not_false]; rfl
     simp only [Gz,ha42,htw,b8,b17,b20,b26,b36,b50,b53,b59,b80,b89,b97,b103,if_true,Bool.false_eq_true,if_false]
     rw [if_pos (by omega),Db p83_1 (by omega) hq (by omega)]
    rw [Gj,Gt q8,Jw,hi,if_pos rfl,if_neg (by omega),Db p30_1 (by omega) hf (by omega)]
   have q103:=of_decide_eq_false b103
   refine Al ?_
   apply k90
   refine Ag rfl rfl ?_
   refine Aa rfl (Ah (v:=(iV ((q:Int)))) h83_7) ?_
   refine Aa rfl (Br (p:=(q:Int)) (q:=1) rfl rfl (z:=(((q + 1):Nat):Int)) (Bo (by first | rfl | omega | (push_cast; rfl)) (by omega) (by omega))) ?_
   refine l_A (iV ((((q + 1):Nat):Int))) rfl rfl ?_
   apply Ac
   refine ⟨_,?_,((q + 1)),rfl,rfl,rfl,rfl,h83_1,h83_4,h83_5,rfl,(by omega),(Ef p83_1 (by simp only [Nb,ha95,b8,b17,b20,b26,b36,b50,b53,b59,b80,b89,b97,b103,Bool.true_and,Bool.false_and,Bool.and_true,Bool.and_false,Bool.true_or,Bool.false_or,Bool.or_true,Bool.or_false,Bool.not_true,Bool.not_false]; rfl)),trivial⟩
   omega
  have q89:=of_decide_eq_false b89
  refine Bx ?_
  apply k37
  refine Ag rfl rfl ?_
  refine Aa rfl (Ah (v:=(iV ((i:Int)))) h83_4) ?_
  refine Aa rfl (Br (p:=(i:Int)) (q:=1) rfl rfl (z:=(((i + 1):Nat):Int)) (Bo (by first | rfl | omega | (push_cast; rfl)) (by omega) (by omega))) ?_
  refine l_A (iV ((((i + 1):Nat):Int))) rfl rfl ?_
  refine Bj (Arw l45) ?_
  apply Ac
  refine ⟨_,?_,((i + 1)),rfl,rfl,rfl,rfl,h83_1,rfl,(by omega),(Ef p30_1 (by
 have htw:=(testIs_none fun j hj=>p56_1 j (by omega):(Cl i (Rm l a42.name)).isSome = false)
 simp only [Gz,ha42,htw,b8,b17,b20,b26,b36,b50,b53,b59,b80,b89,if_true,Bool.false_eq_true,if_false]
 rw [if_pos (by omega),Fb fun j hj=>p83_1 j (by omega)])),trivial⟩
  omega
 have q36:=of_decide_eq_false b36
 refine Bx ?_
 apply k28
 refine w_q rfl rfl fun K105 k105=>?_
 refine l_A (iV (0)) rfl rfl ?_
 apply Ac
 apply k105
 refine Aj (Arw l2) ?_
 refine Aq ?_
 refine hret _ _ _ ?_
 refine ⟨rfl,rfl,Eq.trans (b:=(iV (0))) rfl ?_⟩
 have hi:inR l.most 0 (l.kinds.length:Int) = true:=Ge.2 q20
 rw [Gj,Gt q8,Jw,hi,if_pos rfl,if_neg (by omega),Fb fun j hj=>p30_1 j (by omega)]
end Go.Proofs.YtoefdnbaklajeaaDoor

namespace Go.Proofs.YtoefdnbaklajeaaDoor
open Go
theorem pop8_all:(List.range 256).all (fun x=>De x == x % 2 + De (x / 2)) = true:=by decide +kernel
theorem pop8_step {x:Nat} (h:x < 256):De x = x % 2 + De (x / 2):=by
  have:=List.all_eq_true.1 pop8_all x (by simpa using h)
  simpa using this
theorem pop8_0:De 0 = 0:=by decide
theorem any_succ {p:Nat→Bool} {i:Nat}:(List.range (i + 1)).any p = ((List.range i).any p || p i):=by
  rw [List.range_succ,List.any_append]; simp
end Go.Proofs.YtoefdnbaklajeaaDoor

namespace Go.Proofs.YtoefdnbaklajeaaDoor
open Go
set_option maxRecDepth 100000 in
theorem c_size {mn:Bool} {X:Frame→List Frame→Ro→Own→Cy→Prop} {ρ:Ro} {σ:Own} {s:Nat} (hs:s < 256):CallsH (CX mn X) 99 #[(iV ((s:Int)))] ρ σ (fun w ρ' σ'=>ρ' = ρ∧σ' = σ∧w = (iV (((De s:Nat):Int)))):=by
 refine Bh (n:=13) (args:=[(iV ((s:Int)))]) [2] Tryd.func99 rfl rfl rfl rfl fun Q hret hnor=>?_
 refine w_q rfl rfl fun K1 k1=>?_
 refine l_A (iV (0)) rfl rfl ?_
 apply Ac
 apply k1
 refine w_q rfl rfl fun K2 k2=>?_
 refine l_A (iV (0)) rfl rfl ?_
 apply Ac
 apply k2
 refine Ai fun K3 k3=>?_
 refine Ao ?_
 refine Cc (fun mm ee dd ρ' σ'=>∃ (x:Nat) (c:Nat),(x) = mm∧[] = dd∧ρ = ρ'∧σ = σ'∧ee 0 = (iV ((x:Int)))∧ee 3 = (iV ((c:Int)))∧(c + x ≤ s)∧(c + De x = De s)∧True) (m:=_) ⟨s,0,rfl,rfl,rfl,rfl,rfl,rfl,(by omega),(Nat.zero_add _),trivial⟩ ?_
 rintro m4 e4 _ _ _ ⟨x,c,rfl,rfl,rfl,rfl,h4_0,h4_3,p4_0,p4_1,_⟩
 refine Ai fun K5 k5=>?_
 refine w_q rfl rfl fun K6 k6=>?_
 refine Aa rfl (Ah (v:=(iV ((x:Int)))) h4_0) ?_
 refine Aa rfl (Gk (p:=(x:Int)) (q:=0) rfl rfl) ?_
 apply Ac
 apply k6
 refine As (t:=decide ((x:Int) > 0)) rfl (fun b7=>?_) (fun b7=>?_)
 ·have q7:=of_decide_eq_true b7
  refine Al ?_
  apply k5
  refine Ao ?_
  refine w_q rfl rfl fun K8 k8=>?_
  refine Aa rfl (Ah (v:=(iV ((c:Int)))) h4_3) ?_
  refine Aa rfl (Ah (v:=(iV ((x:Int)))) h4_0) ?_
  refine Aa rfl (y_rem (p:=(x:Int)) (q:=2) rfl rfl (by omega) (z:=(((x % 2):Nat):Int)) rfl) ?_
  refine Aa rfl (Br (p:=(c:Int)) (q:=(((x % 2):Nat):Int)) rfl rfl (z:=(((c + (x % 2)):Nat):Int)) (Bo (by first | rfl | omega | (push_cast; rfl)) (by omega) (by omega))) ?_
  refine l_A (iV ((((c + (x % 2)):Nat):Int))) rfl rfl ?_
  apply Ac
  apply k8
  refine Ag rfl rfl ?_
  refine Aa rfl (Ah (v:=(iV ((x:Int)))) h4_0) ?_
  refine Aa rfl (y_quo (p:=(x:Int)) (q:=2) rfl rfl (by omega) (z:=(((x / 2):Nat):Int)) (Bo rfl (by omega) (by omega))) ?_
  refine l_A (iV ((((x / 2):Nat):Int))) rfl rfl ?_
  apply Ac
  refine ⟨_,?_,((x / 2)),((c + (x % 2))),rfl,rfl,rfl,rfl,rfl,rfl,(by omega),(by rw [← p4_1,pop8_step (x:=x) (by omega)]; omega),trivial⟩
  omega
 have q7:=of_decide_eq_false b7
 refine Bx ?_
 apply k3
 refine w_q rfl rfl fun K9 k9=>?_
 refine Aa rfl (Ah (v:=(iV ((c:Int)))) h4_3) ?_
 refine l_A (iV ((c:Int))) rfl rfl ?_
 apply Ac
 apply k9
 refine Aq ?_
 refine hret _ _ _ ?_
 refine ⟨rfl,rfl,Eq.trans (b:=(iV ((c:Int)))) rfl ?_⟩
 have hx:x = 0:=by omega
 subst hx
 rw [← p4_1,pop8_0,Nat.add_zero]
set_option maxRecDepth 100000 in
theorem c_Can {mn:Bool} {X:Frame→List Frame→Ro→Own→Cy→Prop} {ρ:Ro} {σ:Own} {t:FTest} {vt:Value} {s:Nat} {found:Bool} (rt:Val ρ vt t) (hs:s < 65536):CallsH (CX mn X) 107 #[vt,(iV ((s:Int))),(.bool (found))] ρ σ (fun w ρ' σ'=>ρ' = ρ∧σ' = σ∧w = (.bool (Afm t s found))):=by
 refine Bh (n:=46) (args:=[vt,(iV ((s:Int))),(.bool (found))]) [6] Tryd.func107 rfl rfl rfl rfl fun Q hret hnor=>?_
 refine w_q rfl rfl fun K1 k1=>?_
 refine Ae rfl (Eb (v:=vt) rfl fun k2=>?_)
 refine Bb (a:=t) rt fun ρ2 l2 r2=>?_
 replace rt:=Asa l2 rt
 refine l_A (.bool (false)) rfl rfl ?_
 apply Ac
 apply k1
 refine w_q rfl rfl fun K3 k3=>?_
 refine Ak rfl (Ay FTest.f_errs Tryd.underlying108 rfl rfl ty4 (by decide) rfl r2) fun v4 r4=>?_
 refine Aa rfl (Nw ty4 rfl r4) ?_
 refine l_A (.bool (t.errs)) rfl rfl ?_
 refine l_A (.bool (false)) rfl rfl ?_
 apply Ac
 apply k3
 refine Ai fun K6 k6=>?_
 refine w_q rfl rfl fun K7 k7=>?_
 refine l_A (iV (0)) rfl rfl ?_
 apply Ac
 apply k7
 refine Ao ?_
 refine Cc (fun mm ee dd ρ' σ'=>∃ (i:Nat) (so:Bool) (su:Bool),(t.sees.length - i) = mm∧[] = dd∧ρ2 = ρ'∧σ = σ'∧ee 1 = (iV ((s:Int)))∧ee 2 = (.bool (found))∧ee 3 = (.pointer (some ⟨k2,0,none⟩))∧ee 7 = (.bool (so))∧ee 8 = (.bool (su))∧ee 9 = (iV ((i:Int)))∧(i ≤ t.sees.length)∧(so = (t.errs || (List.range i).any (Ahz t s)))∧(su = (List.range i).any (Akd t s))∧True) (m:=_) ⟨0,t.errs,false,rfl,rfl,rfl,rfl,rfl,rfl,rfl,rfl,rfl,rfl,(Nat.zero_le _),(by simp),(by simp),trivial⟩ ?_
 rintro m8 e8 _ _ _ ⟨i,so,su,rfl,rfl,rfl,rfl,h8_1,h8_2,h8_3,h8_7,h8_8,h8_9,p8_0,p8_1,p8_2,_⟩
 refine Ai fun K9 k9=>?_
 refine w_q rfl rfl fun K10 k10=>?_
 refine Aa rfl (Ah (v:=(iV ((i:Int)))) h8_9) ?_
 refine Ak rfl (Ay FTest.f_sees Tryd.underlying108 rfl rfl Aex (by decide) h8_3 r2) fun v11 r11=>?_
 refine Ak rfl (Ax Aex rfl r11) fun v12 r12=>?_
 have g13:=Val.len r12
 refine Aa rfl (Ce (el:=53) Tryd.underlying46 rfl r12) ?_
 refine Aa rfl (Da (p:=(i:Int)) (q:=((t.sees.length:Nat):Int)) rfl rfl) ?_
 apply Ac
 apply k10
 refine As (t:=decide ((i:Int) < ((t.sees.length:Nat):Int))) rfl (fun b14=>?_) (fun b14=>?_)
 ·have q14:=of_decide_eq_true b14
  refine Al ?_
  apply k9
  refine Ai fun K15 k15=>?_
  refine Ao ?_
  refine w_q rfl rfl fun K16 k16=>?_
  refine Aa rfl (Ah (v:=(iV ((s:Int)))) h8_1) ?_
  refine Aa rfl (Ah (v:=(iV ((i:Int)))) h8_9) ?_
  refine Aa rfl (Jq (p:=s) (q:=i) rfl rfl rfl (by omega)) ?_
  refine Aa rfl (y_rem (p:=(((s >>> i):Nat):Int)) (q:=2) rfl rfl (by omega) (z:=((((s >>> i) % 2):Nat):Int)) rfl) ?_
  refine Aa rfl (Ek (p:=((((s >>> i) % 2):Nat):Int)) (q:=1) rfl rfl) ?_
  apply Ac
  apply k16
  refine As (t:=((((s >>> i) % 2):Nat):Int) == 1) rfl (fun b17=>?_) (fun b17=>?_)
  ·have q17:=Jo b17
   refine w_q rfl rfl fun K18 k18=>?_
   refine Aa rfl (Ah (v:=(.bool (so))) h8_7) ?_
   refine l_M (.bool (so)) rfl rfl ?_
   refine Cn (so) (fun b19=>?_) (fun b19=>?_)
   ·refine Ap (Bl rfl rfl rfl b19) ?_
    refine Ap (Bl rfl rfl rfl b19) ?_
    refine Ap (Bl rfl rfl rfl b19) ?_
    refine Ap (Bl rfl rfl rfl b19) ?_
    refine Ap (Bl rfl rfl rfl b19) ?_
    refine Ap (Bl rfl rfl rfl b19) ?_
    refine Aa rfl (Bt rfl b19 (v:=(.bool (true))) rfl) ?_
    refine l_A (.bool (true)) rfl rfl ?_
    apply Ac
    apply k18
    refine Ag rfl rfl ?_
    refine Aa rfl (Ah (v:=(.bool (su))) h8_8) ?_
    refine l_M (.bool (su)) rfl rfl ?_
    refine Cn (su) (fun b20=>?_) (fun b20=>?_)
    ·refine Ap (Bl rfl rfl rfl b20) ?_
     refine Ap (Bl rfl rfl rfl b20) ?_
     refine Ap (Bl rfl rfl rfl b20) ?_
     refine Ap (Bl rfl rfl rfl b20) ?_
     refine Ap (Bl rfl rfl rfl b20) ?_
     refine Ap (Bl rfl rfl rfl b20) ?_
     refine Aa rfl (Bt rfl b20 (v:=(.bool (true))) rfl) ?_
     refine l_A (.bool (true)) rfl rfl ?_
     apply Ac
     apply k15
     refine Ag rfl rfl ?_
     refine Aa rfl (Ah (v:=(iV ((i:Int)))) h8_9) ?_
     refine Aa rfl (Br (p:=(i:Int)) (q:=1) rfl rfl (z:=(((i + 1):Nat):Int)) (Bo (by first | rfl | omega | (push_cast; rfl)) (by omega) (by omega))) ?_
     refine l_A (iV ((((i + 1):Nat):Int))) rfl rfl ?_
     apply Ac
     refine ⟨_,?_,((i + 1)),(true),(true),rfl,rfl,rfl,rfl,h8_1,h8_2,h8_3,rfl,rfl,rfl,(by omega),(by rw [any_succ,← Bool.or_assoc,← p8_1]; simp [Ahz,Aql b17,b14,b17,b19,b20]),(by rw [any_succ,← p8_2]; simp [Akd,Aql b17,b14,b17,b19,b20]),trivial⟩
     omega
    refine Ak (Ar rfl rfl rfl b20) (Ay FTest.f_sees Tryd.underlying108 rfl rfl Aex (by decide) h8_3 r2) fun v21 r21=>?_
    refine Ak (Ar rfl rfl rfl b20) (Ax Aex rfl r21) fun v22 r22=>?_
    refine Aa (Ar rfl rfl rfl b20) (Ah (v:=(iV ((i:Int)))) h8_9) ?_
    obtain ⟨a24,ha24⟩:=Ed (xs:=t.sees) (i:=i) (by omega)
    refine Ak (Ar rfl rfl rfl b20) (Ci i Tryd.underlying46 Ov rfl r22 (q:=(i:Int)) rfl rfl ha24) fun v23 r23=>?_
    have ⟨g25a,g25b⟩:=At.rng r23
    refine Aa (Ar rfl rfl rfl b20) (Bc Ov rfl r23) ?_
    refine Aa (Ar rfl rfl rfl b20) (Ek (p:=a24) (q:=1) rfl rfl) ?_
    refine Aa rfl (Bm rfl b20 (v:=(.bool (a24 == 1))) rfl) ?_
    refine l_A (.bool (a24 == 1)) rfl rfl ?_
    apply Ac
    apply k15
    refine Ag rfl rfl ?_
    refine Aa rfl (Ah (v:=(iV ((i:Int)))) h8_9) ?_
    refine Aa rfl (Br (p:=(i:Int)) (q:=1) rfl rfl (z:=(((i + 1):Nat):Int)) (Bo (by first | rfl | omega | (push_cast; rfl)) (by omega) (by omega))) ?_
    refine l_A (iV ((((i + 1):Nat):Int))) rfl rfl ?_
    apply Ac
    refine ⟨_,?_,((i + 1)),(true),(a24 == 1),rfl,rfl,rfl,rfl,h8_1,h8_2,h8_3,rfl,rfl,rfl,(by omega),(by rw [any_succ,← Bool.or_assoc,← p8_1]; simp [Ahz,Aql b17,b14,b17,b19,b20,ha24]),(by rw [any_succ,← p8_2]; simp [Akd,Aql b17,b14,b17,b19,b20,ha24]),trivial⟩
    omega
   refine Ak (Ar rfl rfl rfl b19) (Ay FTest.f_sees Tryd.underlying108 rfl rfl Aex (by decide) h8_3 r2) fun v26 r26=>?_
   refine Ak (Ar rfl rfl rfl b19) (Ax Aex rfl r26) fun v27 r27=>?_
   refine Aa (Ar rfl rfl rfl b19) (Ah (v:=(iV ((i:Int)))) h8_9) ?_
   obtain ⟨a29,ha29⟩:=Ed (xs:=t.sees) (i:=i) (by omega)
   refine Ak (Ar rfl rfl rfl b19) (Ci i Tryd.underlying46 Ov rfl r27 (q:=(i:Int)) rfl rfl ha29) fun v28 r28=>?_
   have ⟨g30a,g30b⟩:=At.rng r28
   refine Aa (Ar rfl rfl rfl b19) (Bc Ov rfl r28) ?_
   refine Aa (Ar rfl rfl rfl b19) (Dg (p:=a29) (q:=2) rfl rfl) ?_
   refine Aa rfl (Bm rfl b19 (v:=(.bool (a29 != 2))) rfl) ?_
   refine l_A (.bool (a29 != 2)) rfl rfl ?_
   apply Ac
   apply k18
   refine Ag rfl rfl ?_
   refine Aa rfl (Ah (v:=(.bool (su))) h8_8) ?_
   refine l_M (.bool (su)) rfl rfl ?_
   refine Cn (su) (fun b31=>?_) (fun b31=>?_)
   ·refine Ap (Bl rfl rfl rfl b31) ?_
    refine Ap (Bl rfl rfl rfl b31) ?_
    refine Ap (Bl rfl rfl rfl b31) ?_
    refine Ap (Bl rfl rfl rfl b31) ?_
    refine Ap (Bl rfl rfl rfl b31) ?_
    refine Ap (Bl rfl rfl rfl b31) ?_
    refine Aa rfl (Bt rfl b31 (v:=(.bool (true))) rfl) ?_
    refine l_A (.bool (true)) rfl rfl ?_
    apply Ac
    apply k15
    refine Ag rfl rfl ?_
    refine Aa rfl (Ah (v:=(iV ((i:Int)))) h8_9) ?_
    refine Aa rfl (Br (p:=(i:Int)) (q:=1) rfl rfl (z:=(((i + 1):Nat):Int)) (Bo (by first | rfl | omega | (push_cast; rfl)) (by omega) (by omega))) ?_
    refine l_A (iV ((((i + 1):Nat):Int))) rfl rfl ?_
    apply Ac
    refine ⟨_,?_,((i + 1)),(a29 != 2),(true),rfl,rfl,rfl,rfl,h8_1,h8_2,h8_3,rfl,rfl,rfl,(by omega),(by rw [any_succ,← Bool.or_assoc,← p8_1]; simp [Ahz,Aql b17,b14,b17,b19,b31,ha29]),(by rw [any_succ,← p8_2]; simp [Akd,Aql b17,b14,b17,b19,b31,ha29]),trivial⟩
    omega
   refine Ak (Ar rfl rfl rfl b31) (Ay FTest.f_sees Tryd.underlying108 rfl rfl Aex (by decide) h8_3 r2) fun v32 r32=>?_
   refine Ak (Ar rfl rfl rfl b31) (Ax Aex rfl r32) fun v33 r33=>?_
   refine Aa (Ar rfl rfl rfl b31) (Ah (v:=(iV ((i:Int)))) h8_9) ?_
   refine Ak (Ar rfl rfl rfl b31) (Ci i Tryd.underlying46 Ov rfl r33 (q:=(i:Int)) rfl rfl ha29) fun v34 r34=>?_
   have ⟨g35a,g35b⟩:=At.rng r34
   refine Aa (Ar rfl rfl rfl b31) (Bc Ov rfl r34) ?_
   refine Aa (Ar rfl rfl rfl b31) (Ek (p:=a29) (q:=1) rfl rfl) ?_
   refine Aa rfl (Bm rfl b31 (v:=(.bool (a29 == 1))) rfl) ?_
   refine l_A (.bool (a29 == 1)) rfl rfl ?_
   apply Ac
   apply k15
   refine Ag rfl rfl ?_
   refine Aa rfl (Ah (v:=(iV ((i:Int)))) h8_9) ?_
   refine Aa rfl (Br (p:=(i:Int)) (q:=1) rfl rfl (z:=(((i + 1):Nat):Int)) (Bo (by first | rfl | omega | (push_cast; rfl)) (by omega) (by omega))) ?_
   refine l_A (iV ((((i + 1):Nat):Int))) rfl rfl ?_
   apply Ac
   refine ⟨_,?_,((i + 1)),(a29 != 2),(a29 == 1),rfl,rfl,rfl,rfl,h8_1,h8_2,h8_3,rfl,rfl,rfl,(by omega),(by rw [any_succ,← Bool.or_assoc,← p8_1]; simp [Ahz,Aql b17,b14,b17,b19,b31,ha29]),(by rw [any_succ,← p8_2]; simp [Akd,Aql b17,b14,b17,b19,b31,ha29]),trivial⟩
   omega
  have q17:=La b17
  refine Al ?_
  apply k15
  refine Ag rfl rfl ?_
  refine Aa rfl (Ah (v:=(iV ((i:Int)))) h8_9) ?_
  refine Aa rfl (Br (p:=(i:Int)) (q:=1) rfl rfl (z:=(((i + 1):Nat):Int)) (Bo (by first | rfl | omega | (push_cast; rfl)) (by omega) (by omega))) ?_
  refine l_A (iV ((((i + 1):Nat):Int))) rfl rfl ?_
  apply Ac
  refine ⟨_,?_,((i + 1)),(so),(su),rfl,rfl,rfl,rfl,h8_1,h8_2,h8_3,h8_7,h8_8,rfl,(by omega),(by rw [any_succ,← Bool.or_assoc,← p8_1]; simp [Ahz,Aqp b17,b14,b17]),(by rw [any_succ,← p8_2]; simp [Akd,Aqp b17,b14,b17]),trivial⟩
  omega
 have q14:=of_decide_eq_false b14
 refine Bx ?_
 apply k6
 refine Ai fun K36 k36=>?_
 refine w_q rfl rfl fun K37 k37=>?_
 refine Aa rfl (Ah (v:=(.bool (found))) h8_2) ?_
 apply Ac
 apply k37
 refine As (t:=found) rfl (fun b38=>?_) (fun b38=>?_)
 ·refine w_q rfl rfl fun K39 k39=>?_
  refine Aa rfl (Ah (v:=(.bool (so))) h8_7) ?_
  refine l_A (.bool (so)) rfl rfl ?_
  apply Ac
  apply k39
  refine Aj (Arw l2) ?_
  refine Aq ?_
  refine hret _ _ _ ?_
  refine ⟨rfl,rfl,Eq.trans (b:=(.bool (so))) rfl ?_⟩
  have hi:i = t.sees.length:=by omega
  subst hi
  simp only [Afm,b14,b38,if_true,Bool.false_eq_true,if_false,p8_1,p8_2]
 refine Al ?_
 apply k36
 refine w_q rfl rfl fun K40 k40=>?_
 refine Aa rfl (Ah (v:=(.bool (su))) h8_8) ?_
 refine Aa rfl (Ix (k:=su) rfl) ?_
 refine l_A (.bool (!(su))) rfl rfl ?_
 apply Ac
 apply k40
 refine Aj (Arw l2) ?_
 refine Aq ?_
 refine hret _ _ _ ?_
 refine ⟨rfl,rfl,Eq.trans (b:=(.bool (!(su)))) rfl ?_⟩
 have hi:i = t.sees.length:=by omega
 subst hi
 simp only [Afm,b14,b38,if_true,Bool.false_eq_true,if_false,p8_1,p8_2]
end Go.Proofs.YtoefdnbaklajeaaDoor

namespace Go.Proofs.YtoefdnbaklajeaaDoor
open Go
theorem ints_filter_succ {p:Nat→Bool} {i:Nat}:Bw ((List.range (i + 1)).filter p) = Bw ((List.range i).filter p) ++ (if p i then [(i:Int)] else []):=by
  unfold Bw
  rw [List.range_succ,List.filter_append,List.map_append]
  congr 1
  cases h:p i <;> simp [List.filter,h]
end Go.Proofs.YtoefdnbaklajeaaDoor

namespace Go.Proofs.YtoefdnbaklajeaaDoor
open Go
set_option maxRecDepth 100000 in
theorem c_refSets {mn:Bool} {X:Frame→List Frame→Ro→Own→Cy→Prop} {ρ:Ro} {σ:Own} {l:Lab} {vl:Value} (rl:Val ρ vl l) (ok:LabOk l):CallsH (CX mn X) 101 #[vl] ρ σ (fun w ρ' σ'=>Ro.le ρ ρ'∧σ' = σ∧Val ρ' w (Bw (Hk l):List Int)):=by
 have hk:=ok.n4
 have hsm:=Rj hk
 refine Bh (n:=23) (args:=[vl]) [2] Tryd.func101 rfl rfl rfl rfl fun Q hret hnor=>?_
 refine w_q rfl rfl fun K1 k1=>?_
 refine Ae rfl (Eb (v:=vl) rfl fun k2=>?_)
 refine Bb (a:=l) rl fun ρ2 l2 r2=>?_
 replace rl:=Asa l2 rl
 refine l_A (.slice none 0 0) rfl rfl ?_
 apply Ac
 apply k1
 refine w_q rfl rfl fun K3 k3=>?_
 refine l_A (.slice none 0 0) rfl rfl ?_
 apply Ac
 apply k3
 refine Ai fun K4 k4=>?_
 refine w_q rfl rfl fun K5 k5=>?_
 refine l_A (iV (0)) rfl rfl ?_
 apply Ac
 apply k5
 refine Ao ?_
 refine Cc (fun mm ee dd ρ' σ'=>∃ (i:Nat) (ov6_3:Value) (og6_3:Own),(1 <<< l.kinds.length - i) = mm∧[] = dd∧Ro.le ρ2 ρ'∧(og6_3 ++ σ) = σ'∧ee 1 = (.pointer (some ⟨k2,0,none⟩))∧ee 3 = ov6_3∧ee 4 = (iV ((i:Int)))∧(i ≤ 1 <<< l.kinds.length)∧Grow ρ' 3 ov6_3 (Bw ((List.range i).filter (Adf l))) og6_3∧True) (m:=_) ⟨0,(.slice none 0 0),[],rfl,rfl,Ary,rfl,rfl,rfl,rfl,(Nat.zero_le _),Hn,trivial⟩ ?_
 rintro m6 e6 _ ρ6 _ ⟨i,ov6_3,og6_3,rfl,rfl,l6,rfl,h6_1,h6_3,h6_4,p6_0,OG6_3,_⟩
 replace r2:=Arv l6 r2
 refine Ai fun K7 k7=>?_
 refine w_q rfl rfl fun K8 k8=>?_
 refine Aa rfl (Ah (v:=(iV ((i:Int)))) h6_4) ?_
 refine Ak rfl (Ay Lab.f_kinds Tryd.underlying40 rfl rfl Hu (by decide) h6_1 r2) fun v9 r9=>?_
 refine Ak rfl (Ax Hu rfl r9) fun v10 r10=>?_
 have g11:=Val.len r10
 refine Aa rfl (Ce (el:=9) Tryd.underlying22 rfl r10) ?_
 refine Aa rfl (Ly (p:=1) (q:=l.kinds.length) rfl rfl rfl (by omega) (z:=(((1 <<< l.kinds.length):Nat):Int)) (Bo rfl (by omega) (by omega))) ?_
 refine Aa rfl (Da (p:=(i:Int)) (q:=(((1 <<< l.kinds.length):Nat):Int)) rfl rfl) ?_
 apply Ac
 apply k8
 refine As (t:=decide ((i:Int) < (((1 <<< l.kinds.length):Nat):Int))) rfl (fun b12=>?_) (fun b12=>?_)
 ·have q12:=of_decide_eq_true b12
  refine Al ?_
  apply k7
  refine Ai fun K13 k13=>?_
  refine Ao ?_
  refine Ai fun K14 k14=>?_
  refine Dc [0,1,2,3,4] (by kernel_rfl) rfl rfl ?_
  refine Be (i:=0) [o1,o0,o0,o0,o0] rfl (by kernel_rfl) rfl Ary rfl (Ah (v:=(iV ((i:Int)))) h6_4) ?_
  refine Cd (i:=2) [o1,o0,o1,o0,o0] rfl (by kernel_rfl) rfl Ary rfl (Ay Lab.f_most Tryd.underlying40 rfl rfl ty3 (by decide) h6_1 r2) fun v15 r15=>?_
  have ⟨g16a,g16b⟩:=At.rng r15
  refine Be (i:=3) [o1,o0,o1,o1,o0] rfl (by kernel_rfl) rfl Ary rfl (Bc ty3 rfl r15) ?_
  refine Dj (i:=1) [o1,o1,o1,o1,o0] rfl (by kernel_rfl) rfl rfl (Bn (vs:=[(iV ((i:Int)))]) (v:=(iV (((De i:Nat):Int)))) (c_size (by omega)) Tryd.func99 rfl rfl ⟨rfl,trivial⟩ ⟨Ary,?_⟩)
  refine Bg (i:=4) [o1,o1,o1,o1,o1] rfl (by kernel_rfl) rfl Ary rfl (Tx (p:=((De i:Nat):Int)) (q:=l.most) rfl rfl) ?_
  refine Ec rfl ?_
  apply k14
  refine As (t:=decide (((De i:Nat):Int) ≤ l.most)) rfl (fun b17=>?_) (fun b17=>?_)
  ·have q17:=of_decide_eq_true b17
   refine Ag rfl rfl ?_
   refine Aa rfl (Ah (v:=ov6_3) h6_3) ?_
   refine Aa rfl (Ah (v:=(iV ((i:Int)))) h6_4) ?_
   refine Ae rfl (Bi (α:=Int) (xs:=[(i:Int)]) (vs:=[(iV ((i:Int)))]) Tryd.underlying30 ty3 zr3 rfl (by decide) (Dl (os:=[.tmp 19]) ⟨rfl,trivial⟩) ⟨(Cv.2 ⟨rfl,by constructor <;> omega⟩),trivial⟩ rfl (by decide) fun k18 cs18 R18=>?_)
   have G18:Grow ρ6 3 (.slice (some ⟨k18,0,none⟩) 1 1) ([(i:Int)]:List Int) [(k18,.obj (.cells cs18.toArray 3 (0,0)))]:=Bs R18 rfl (by decide)
   refine Ca G18 fun ρ20 l20 r20=>?_
   replace r2:=Arv l20 r2
   replace OG6_3:=Grow.mono l20 OG6_3
   refine Ae rfl (Fx (σ:=σ) (gr:=og6_3) (xs:=Bw ((List.range i).filter (Adf l))) (ys:=([(i:Int)]:List Int)) Tryd.underlying30 Tryd.underlying30 (Ab Tryd.typeInfo3) rfl (Nat.le_of_ble_eq_true rfl) rfl rfl rfl rfl OG6_3 r20 (by have h1:=List.length_filter_le (Adf l) (List.range i); simp only [Fe,List.length_append,List.length_cons,List.length_nil,List.length_range,List.length_take] at *; omega) fun v19 gr19 G19=>?_)
   refine l_A v19 rfl rfl ?_
   apply Ac
   apply k13
   refine Ag rfl rfl ?_
   refine Aa rfl (Ah (v:=(iV ((i:Int)))) h6_4) ?_
   refine Aa rfl (Br (p:=(i:Int)) (q:=1) rfl rfl (z:=(((i + 1):Nat):Int)) (Bo (by first | rfl | omega | (push_cast; rfl)) (by omega) (by omega))) ?_
   refine l_A (iV ((((i + 1):Nat):Int))) rfl rfl ?_
   apply Ac
   refine ⟨_,?_,((i + 1)),v19,gr19,rfl,rfl,(Arz l6 l20),rfl,h6_1,rfl,rfl,(by omega),(Ga (by rw [ints_filter_succ]; simp [Adf,b12,b17]) G19),trivial⟩
   omega
  have q17:=of_decide_eq_false b17
  refine Al ?_
  apply k13
  refine Ag rfl rfl ?_
  refine Aa rfl (Ah (v:=(iV ((i:Int)))) h6_4) ?_
  refine Aa rfl (Br (p:=(i:Int)) (q:=1) rfl rfl (z:=(((i + 1):Nat):Int)) (Bo (by first | rfl | omega | (push_cast; rfl)) (by omega) (by omega))) ?_
  refine l_A (iV ((((i + 1):Nat):Int))) rfl rfl ?_
  apply Ac
  refine ⟨_,?_,((i + 1)),ov6_3,og6_3,rfl,rfl,l6,rfl,h6_1,h6_3,rfl,(by omega),(Ga (by rw [ints_filter_succ]; simp [Adf,b12,b17]) OG6_3),trivial⟩
  omega
 have q12:=of_decide_eq_false b12
 refine Bx ?_
 apply k4
 refine w_q rfl rfl fun K21 k21=>?_
 refine Aa rfl (Ah (v:=ov6_3) h6_3) ?_
 refine l_A ov6_3 rfl rfl ?_
 apply Ac
 apply k21
 refine Gy OG6_3 fun ρ22 l22 r22=>?_
 refine Aq ?_
 refine hret _ _ _ ?_
 refine ⟨(Arz (Arz l2 l6) l22),rfl,Aci (v:=ov6_3) rfl (Val.cast ?_ r22)⟩
 ·have hi:i = 1 <<< l.kinds.length:=by omega
  rw [hi]; rfl
end Go.Proofs.YtoefdnbaklajeaaDoor

namespace Go.Proofs.YtoefdnbaklajeaaDoor
open Go
def firstAt (l:Lab) (rs:List Found) (i:Nat):Bool:=((Bw (Ba l (rs.take (i + 1)))).length:Int) == 0
def firstI (l:Lab) (rs:List Found):Int:=match Cl rs.length (firstAt l rs) with | some i=>(i:Int) | none=>-1
def firstV (l:Lab) (rs:List Found):Value:=if Hw l rs = 0 then .tuple #[.int .i64 (firstI l rs),.int .i64 0] else .tuple #[.int .i64 0,.int .i64 (Hw l rs)]
end Go.Proofs.YtoefdnbaklajeaaDoor

namespace Go.Proofs.YtoefdnbaklajeaaDoor
open Go
set_option maxRecDepth 100000 in
theorem c_Great {mn:Bool} {X:Frame→List Frame→Ro→Own→Cy→Prop} {ρ:Ro} {σ:Own} {l:Lab} {vl:Value} (rl:Val ρ vl l):CallsH (CX mn X) 23 #[vl] ρ σ (fun w ρ' σ'=>ρ' = ρ∧σ' = σ∧∃ b,w = .bool b):=by
 refine Bh (n:=57) (args:=[vl]) [2] Tryd.func23 rfl rfl rfl rfl fun Q hret hnor=>?_
 refine w_q rfl rfl fun K1 k1=>?_
 refine Ae rfl (Eb (v:=vl) rfl fun k2=>?_)
 refine Bb (a:=l) rl fun ρ2 l2 r2=>?_
 replace rl:=Asa l2 rl
 refine l_A (.bool (false)) rfl rfl ?_
 apply Ac
 apply k1
 refine Ai fun K3 k3=>?_
 refine w_q rfl rfl fun K4 k4=>?_
 refine Ak rfl (Ay Lab.f_kinds Tryd.underlying40 rfl rfl Hu (by decide) rfl r2) fun v5 r5=>?_
 refine Ak rfl (Ax Hu rfl r5) fun v6 r6=>?_
 have g7:=Val.len r6
 refine Aa rfl (Ce (el:=9) Tryd.underlying22 rfl r6) ?_
 refine Aa rfl (Gk (p:=((l.kinds.length:Nat):Int)) (q:=40) rfl rfl) ?_
 refine l_M (.bool (decide (((l.kinds.length:Nat):Int) > 40))) rfl rfl ?_
 refine Cn (decide (((l.kinds.length:Nat):Int) > 40)) (fun b8=>?_) (fun b8=>?_)
 ·have q8:=of_decide_eq_true b8
  refine Ap (Bl rfl rfl rfl b8) ?_
  refine Ap (Bl rfl rfl rfl b8) ?_
  refine Ap (Bl rfl rfl rfl b8) ?_
  refine Ap (Bl rfl rfl rfl b8) ?_
  refine Aa rfl (Bt rfl b8 (v:=(.bool (true))) rfl) ?_
  apply Ac
  apply k4
  refine Co rfl rfl ?_
  refine w_q rfl rfl fun K9 k9=>?_
  refine l_A (.bool (true)) rfl rfl ?_
  apply Ac
  apply k9
  refine Aj (Arw l2) ?_
  refine Aq ?_
  refine hret _ _ _ ?_
  exact ⟨rfl,rfl,_,rfl⟩
 have q8:=of_decide_eq_false b8
 refine Ak (Ar rfl rfl rfl b8) (Ay Lab.f_tests Tryd.underlying40 rfl rfl Vd (by decide) rfl r2) fun v10 r10=>?_
 refine Ak (Ar rfl rfl rfl b8) (Ax Vd rfl r10) fun v11 r11=>?_
 have g12:=Val.len r11
 refine Aa (Ar rfl rfl rfl b8) (Ce (el:=108) Tryd.underlying38 rfl r11) ?_
 refine Aa (Ar rfl rfl rfl b8) (Gk (p:=((l.tests.length:Nat):Int)) (q:=40) rfl rfl) ?_
 refine Aa rfl (Bm rfl b8 (v:=(.bool (decide (((l.tests.length:Nat):Int) > 40)))) rfl) ?_
 apply Ac
 apply k4
 refine As (t:=decide (((l.tests.length:Nat):Int) > 40)) rfl (fun b13=>?_) (fun b13=>?_)
 ·have q13:=of_decide_eq_true b13
  refine w_q rfl rfl fun K14 k14=>?_
  refine l_A (.bool (true)) rfl rfl ?_
  apply Ac
  apply k14
  refine Aj (Arw l2) ?_
  refine Aq ?_
  refine hret _ _ _ ?_
  exact ⟨rfl,rfl,_,rfl⟩
 have q13:=of_decide_eq_false b13
 refine Al ?_
 apply k3
 refine w_q rfl rfl fun K15 k15=>?_
 refine l_A (iV (0)) rfl rfl ?_
 apply Ac
 apply k15
 refine Ai fun K16 k16=>?_
 refine w_q rfl rfl fun K17 k17=>?_
 refine l_A (iV (0)) rfl rfl ?_
 apply Ac
 apply k17
 refine Ao ?_
 refine Cc (fun mm ee dd ρ' σ'=>∃ (i:Nat) (n:Int),(l.kinds.length - i) = mm∧[] = dd∧ρ2 = ρ'∧σ = σ'∧ee 1 = (.pointer (some ⟨k2,0,none⟩))∧ee 3 = (iV (n))∧ee 4 = (iV ((i:Int)))∧(i ≤ l.kinds.length)∧True) (m:=_) ⟨0,0,rfl,rfl,rfl,rfl,rfl,rfl,rfl,(Nat.zero_le _),trivial⟩ ?_
 rintro m18 e18 _ _ _ ⟨i,n,rfl,rfl,rfl,rfl,h18_1,h18_3,h18_4,p18_0,_⟩
 refine Ai fun K19 k19=>?_
 refine w_q rfl rfl fun K20 k20=>?_
 refine Aa rfl (Ah (v:=(iV ((i:Int)))) h18_4) ?_
 refine Ak rfl (Ay Lab.f_kinds Tryd.underlying40 rfl rfl Hu (by decide) h18_1 r2) fun v21 r21=>?_
 refine Ak rfl (Ax Hu rfl r21) fun v22 r22=>?_
 have g23:=Val.len r22
 refine Aa rfl (Ce (el:=9) Tryd.underlying22 rfl r22) ?_
 refine Aa rfl (Da (p:=(i:Int)) (q:=((l.kinds.length:Nat):Int)) rfl rfl) ?_
 apply Ac
 apply k20
 refine As (t:=decide ((i:Int) < ((l.kinds.length:Nat):Int))) rfl (fun b24=>?_) (fun b24=>?_)
 ·have q24:=of_decide_eq_true b24
  refine Al ?_
  apply k19
  refine Ai fun K25 k25=>?_
  refine Ao ?_
  refine Ag rfl rfl ?_
  refine Aa rfl (Ah (v:=(iV (n))) h18_3) ?_
  refine Ak rfl (Ay Lab.f_kinds Tryd.underlying40 rfl rfl Hu (by decide) h18_1 r2) fun v26 r26=>?_
  refine Ak rfl (Ax Hu rfl r26) fun v27 r27=>?_
  refine Aa rfl (Ah (v:=(iV ((i:Int)))) h18_4) ?_
  obtain ⟨a29,ha29⟩:=Ed (xs:=l.kinds) (i:=i) (by omega)
  refine Ak rfl (Ci i Tryd.underlying22 ty9 rfl r27 (q:=(i:Int)) rfl rfl ha29) fun v28 r28=>?_
  have g30:=At.slen r28
  refine Aa rfl (Oz ty9 rfl r28) ?_
  refine Aa rfl (Afb Tryd.underlying9 (s:=a29) rfl) ?_
  refine Aa rfl (Br (p:=n) (q:=((a29.size:Nat):Int)) rfl rfl (z:=(IntKind.i64.wrap (n + ((a29.size:Nat):Int)))) rfl) ?_
  refine l_A (iV ((IntKind.i64.wrap (n + ((a29.size:Nat):Int))))) rfl rfl ?_
  apply Ac
  apply k25
  refine Ag rfl rfl ?_
  refine Aa rfl (Ah (v:=(iV ((i:Int)))) h18_4) ?_
  refine Aa rfl (Br (p:=(i:Int)) (q:=1) rfl rfl (z:=(((i + 1):Nat):Int)) (Bo (by first | rfl | omega | (push_cast; rfl)) (by omega) (by omega))) ?_
  refine l_A (iV ((((i + 1):Nat):Int))) rfl rfl ?_
  apply Ac
  refine ⟨_,?_,((i + 1)),((IntKind.i64.wrap (n + ((a29.size:Nat):Int)))),rfl,rfl,rfl,rfl,h18_1,rfl,rfl,(by omega),trivial⟩
  omega
 have q24:=of_decide_eq_false b24
 refine Bx ?_
 apply k16
 refine Ai fun K31 k31=>?_
 refine w_q rfl rfl fun K32 k32=>?_
 refine l_A (iV (0)) rfl rfl ?_
 apply Ac
 apply k32
 refine Ao ?_
 refine Cc (fun mm ee dd ρ' σ'=>∃ (i:Nat) (n:Int),(l.tests.length - i) = mm∧[] = dd∧ρ2 = ρ'∧σ = σ'∧ee 1 = (.pointer (some ⟨k2,0,none⟩))∧ee 3 = (iV (n))∧ee 5 = (iV ((i:Int)))∧(i ≤ l.tests.length)∧True) (m:=_) ⟨0,n,rfl,rfl,rfl,rfl,h18_1,h18_3,rfl,(Nat.zero_le _),trivial⟩ ?_
 rintro m33 e33 _ _ _ ⟨i,n,rfl,rfl,rfl,rfl,h33_1,h33_3,h33_5,p33_0,_⟩
 refine Ai fun K34 k34=>?_
 refine w_q rfl rfl fun K35 k35=>?_
 refine Aa rfl (Ah (v:=(iV ((i:Int)))) h33_5) ?_
 refine Ak rfl (Ay Lab.f_tests Tryd.underlying40 rfl rfl Vd (by decide) h33_1 r2) fun v36 r36=>?_
 refine Ak rfl (Ax Vd rfl r36) fun v37 r37=>?_
 have g38:=Val.len r37
 refine Aa rfl (Ce (el:=108) Tryd.underlying38 rfl r37) ?_
 refine Aa rfl (Da (p:=(i:Int)) (q:=((l.tests.length:Nat):Int)) rfl rfl) ?_
 apply Ac
 apply k35
 refine As (t:=decide ((i:Int) < ((l.tests.length:Nat):Int))) rfl (fun b39=>?_) (fun b39=>?_)
 ·have q39:=of_decide_eq_true b39
  refine Al ?_
  apply k34
  refine Ai fun K40 k40=>?_
  refine Ao ?_
  refine Ai fun K41 k41=>?_
  refine w_q rfl rfl fun K42 k42=>?_
  refine Ak rfl (Ay Lab.f_tests Tryd.underlying40 rfl rfl Vd (by decide) h33_1 r2) fun v43 r43=>?_
  refine Ak rfl (Ax Vd rfl r43) fun v44 r44=>?_
  refine Aa rfl (Ah (v:=(iV ((i:Int)))) h33_5) ?_
  obtain ⟨a46,ha46⟩:=Ed (xs:=l.tests) (i:=i) (by omega)
  refine Ak rfl (Ci i Tryd.underlying38 Td rfl r44 (q:=(i:Int)) rfl rfl ha46) fun v45 r45=>?_
  refine Ak rfl (Ay FTest.f_sees Tryd.underlying108 rfl rfl Aex (by decide) rfl r45) fun v47 r47=>?_
  refine Ak rfl (Ax Aex rfl r47) fun v48 r48=>?_
  have g49:=Val.len r48
  refine Aa rfl (Ce (el:=53) Tryd.underlying46 rfl r48) ?_
  refine Aa rfl (Gk (p:=((a46.sees.length:Nat):Int)) (q:=40) rfl rfl) ?_
  apply Ac
  apply k42
  refine As (t:=decide (((a46.sees.length:Nat):Int) > 40)) rfl (fun b50=>?_) (fun b50=>?_)
  ·have q50:=of_decide_eq_true b50
   refine w_q rfl rfl fun K51 k51=>?_
   refine l_A (.bool (true)) rfl rfl ?_
   apply Ac
   apply k51
   refine Aj (Arw l2) ?_
   refine Aq ?_
   refine hret _ _ _ ?_
   exact ⟨rfl,rfl,_,rfl⟩
  have q50:=of_decide_eq_false b50
  refine Al ?_
  apply k41
  refine Ag rfl rfl ?_
  refine Aa rfl (Ah (v:=(iV (n))) h33_3) ?_
  refine Ak rfl (Ay Lab.f_tests Tryd.underlying40 rfl rfl Vd (by decide) h33_1 r2) fun v52 r52=>?_
  refine Ak rfl (Ax Vd rfl r52) fun v53 r53=>?_
  refine Aa rfl (Ah (v:=(iV ((i:Int)))) h33_5) ?_
  refine Ak rfl (Ci i Tryd.underlying38 Td rfl r53 (q:=(i:Int)) rfl rfl ha46) fun v54 r54=>?_
  refine Ak rfl (Ay FTest.f_name Tryd.underlying108 rfl rfl ty9 (by decide) rfl r54) fun v55 r55=>?_
  have g56:=At.slen r55
  refine Aa rfl (Oz ty9 rfl r55) ?_
  refine Aa rfl (Afb Tryd.underlying9 (s:=a46.name) rfl) ?_
  refine Aa rfl (Br (p:=n) (q:=((a46.name.size:Nat):Int)) rfl rfl (z:=(IntKind.i64.wrap (n + ((a46.name.size:Nat):Int)))) rfl) ?_
  refine l_A (iV ((IntKind.i64.wrap (n + ((a46.name.size:Nat):Int))))) rfl rfl ?_
  apply Ac
  apply k40
  refine Ag rfl rfl ?_
  refine Aa rfl (Ah (v:=(iV ((i:Int)))) h33_5) ?_
  refine Aa rfl (Br (p:=(i:Int)) (q:=1) rfl rfl (z:=(((i + 1):Nat):Int)) (Bo (by first | rfl | omega | (push_cast; rfl)) (by omega) (by omega))) ?_
  refine l_A (iV ((((i + 1):Nat):Int))) rfl rfl ?_
  apply Ac
  refine ⟨_,?_,((i + 1)),((IntKind.i64.wrap (n + ((a46.name.size:Nat):Int)))),rfl,rfl,rfl,rfl,h33_1,rfl,rfl,(by omega),trivial⟩
  omega
 have q39:=of_decide_eq_false b39
 refine Bx ?_
 apply k31
 refine w_q rfl rfl fun K57 k57=>?_
 refine Aa rfl (Ah (v:=(iV (n))) h33_3) ?_
 refine Aa rfl (Gk (p:=n) (q:=1000) rfl rfl) ?_
 refine l_A (.bool (decide (n > 1000))) rfl rfl ?_
 apply Ac
 apply k57
 refine Aj (Arw l2) ?_
 refine Aq ?_
 refine hret _ _ _ ?_
 exact ⟨rfl,rfl,_,rfl⟩
end Go.Proofs.YtoefdnbaklajeaaDoor

namespace Go.Proofs.YtoefdnbaklajeaaDoor
open Go
set_option maxRecDepth 100000 in
theorem c_First {mn:Bool} {X:Frame→List Frame→Ro→Own→Cy→Prop} {ρ:Ro} {σ:Own} {l:Lab} {vl vr:Value} {rs:List Found} (hg:Glob ρ) (rl:Val ρ vl l) (rr:Val ρ vr rs):CallsH (CX mn X) 40 #[vl,vr] ρ σ (fun w ρ' σ'=>ρ' = ρ∧σ' = σ∧w = (firstV l rs)):=by
 refine Bh (n:=42) (args:=[vl,vr]) [4,5] Tryd.func40 rfl rfl rfl rfl fun Q hret hnor=>?_
 refine w_q rfl rfl fun K1 k1=>?_
 refine Ae rfl (Eb (v:=vl) rfl fun k2=>?_)
 refine Bb (a:=l) rl fun ρ2 l2 r2=>?_
 replace rl:=Asa l2 rl
 replace rr:=Asa l2 rr
 replace hg:=Glob.mono l2 hg
 refine l_A (iV (0)) rfl rfl ?_
 refine l_A (iV (0)) rfl rfl ?_
 apply Ac
 apply k1
 refine w_q rfl rfl fun K3 k3=>?_
 refine Ak rfl (Ax Aaj rfl r2) fun v4 r4=>?_
 refine l_M vr rfl rfl ?_
 refine Ae rfl (Cm (vs:=[v4,vr]) (Ahn r4 rr) Tryd.func94 rfl rfl ⟨rfl,rfl,trivial⟩ fun w5 ρ5 σ5 hc5=>?_)
 obtain ⟨l5,hc5⟩:=hc5
 replace rr:=Asa l5 rr
 replace hg:=Glob.mono l5 hg
 replace r2:=Arv l5 r2
 replace r4:=Asa l5 r4
 rcases hc5 with ⟨hF5,rfl,rfl⟩ | ⟨hF5,bp5,rm5,rfl,rfl,rb5⟩
 ·refine Aa rfl (Ah (v:=(.tuple #[(.pointer none),(iV ((Hw l rs)))])) rfl) ?_
  refine Aa rfl (Bk (vs:=#[(.pointer none),(iV ((Hw l rs)))]) rfl (v:=(.pointer none)) rfl) ?_
  refine Aa rfl (Bk (vs:=#[(.pointer none),(iV ((Hw l rs)))]) rfl (v:=(iV ((Hw l rs)))) rfl) ?_
  refine l_A (.pointer none) rfl rfl ?_
  refine l_A (iV ((Hw l rs))) rfl rfl ?_
  apply Ac
  apply k3
  refine Ai fun K6 k6=>?_
  refine w_q rfl rfl fun K7 k7=>?_
  refine l_M (iV ((Hw l rs))) rfl rfl ?_
  refine Aa rfl (Dg (p:=(Hw l rs)) (q:=0) rfl rfl) ?_
  apply Ac
  apply k7
  refine Co rfl (Anh hF5) ?_
  refine w_q rfl rfl fun K8 k8=>?_
  refine l_M (iV ((Hw l rs))) rfl rfl ?_
  refine l_A (iV (0)) rfl rfl ?_
  refine l_A (iV ((Hw l rs))) rfl rfl ?_
  apply Ac
  apply k8
  refine Aj (Arw (Arz l2 l5)) ?_
  refine Aq ?_
  refine hret _ _ _ ?_
  refine ⟨rfl,rfl,Eq.trans (b:=(.tuple #[(iV (0)),(iV ((Hw l rs)))])) (Mk (r:=4) (r':=5) (rs:=[]) (v:=(iV (0))) (v':=(iV ((Hw l rs)))) (vs:=[]) ⟨rfl,rfl,trivial⟩) ?_⟩
  rw [firstV,if_neg hF5]
 obtain ⟨hl,hrs,hr8⟩:=(show Gj l = 0∧ResOk l rs∧rs.length ≤ 8 from Abk hF5)
 have ok:=Lm hl
 have hk4:=ok.n4
 refine l_M (.tuple #[bp5,(iV (0))]) rfl rfl ?_
 refine Aa rfl (Bk (vs:=#[bp5,(iV (0))]) rfl (v:=bp5) rfl) ?_
 refine Aa rfl (Bk (vs:=#[bp5,(iV (0))]) rfl (v:=(iV (0))) rfl) ?_
 refine l_A bp5 rfl rfl ?_
 refine l_A (iV (0)) rfl rfl ?_
 apply Ac
 apply k3
 refine Ai fun K9 k9=>?_
 refine w_q rfl rfl fun K10 k10=>?_
 refine l_M (iV (0)) rfl rfl ?_
 refine Aa rfl (Dg (p:=0) (q:=0) rfl rfl) ?_
 apply Ac
 apply k10
 refine Cg rfl rfl ?_
 refine Al ?_
 apply k9
 refine w_q rfl rfl fun K11 k11=>?_
 refine l_M bp5 rfl rfl ?_
 refine Aa rfl (Hh rfl rb5) ?_
 refine Ak rfl (Ay Bench.f_all Tryd.underlying155 rfl rfl Jg (by decide) rfl rb5) fun v12 r12=>?_
 have ⟨g13a,g13b⟩:=At.rng r12
 refine Aa rfl (Bc Jg rfl r12) ?_
 refine l_A (iV (((Bf (Hk l):Nat):Int))) rfl rfl ?_
 apply Ac
 apply k11
 refine Ai fun K14 k14=>?_
 refine w_q rfl rfl fun K15 k15=>?_
 refine l_M vr rfl rfl ?_
 have g16:=Val.len rr
 refine Aa rfl (Ce (el:=43) Tryd.underlying41 rfl rr) ?_
 refine l_M (iV (0)) rfl rfl ?_
 apply Ac
 apply k15
 refine Ao ?_
 refine Cc (fun mm ee dd ρ' σ'=>∃ (i:Nat) (x:Nat),(rs.length - i) = mm∧[] = dd∧ρ5 = ρ'∧((rm5,Res.obj (Obj.map #[] 0)) :: σ) = σ'∧ee 6 = bp5∧ee 24 = vr∧ee 25 = (iV (((rs.length:Nat):Int)))∧ee 8 = (iV ((x:Int)))∧ee 26 = (iV ((i:Int)))∧(i ≤ rs.length)∧(∀ j,j < i→firstAt l rs j = false)∧(x = Bf (Ba l (rs.take i)))∧(x < 65536)∧True) (m:=_) ⟨0,Bf (Hk l),rfl,rfl,rfl,rfl,rfl,rfl,rfl,rfl,rfl,(Nat.zero_le _),(fun j h=>absurd h (Nat.not_lt_zero _)),rfl,(Jx (rs:=[]) ok),trivial⟩ ?_
 rintro m17 e17 _ _ _ ⟨i,x,rfl,rfl,rfl,rfl,h17_6,h17_24,h17_25,h17_8,h17_26,p17_0,p17_1,p17_2,p17_3,_⟩
 refine w_q rfl rfl fun K18 k18=>?_
 refine Aa rfl (Da (p:=(i:Int)) (q:=((rs.length:Nat):Int)) h17_26 h17_25) ?_
 apply Ac
 apply k18
 refine Ai fun K19 k19=>?_
 refine As (t:=decide ((i:Int) < ((rs.length:Nat):Int))) rfl (fun b20=>?_) (fun b20=>?_)
 ·have q20:=of_decide_eq_true b20
  refine Al ?_
  apply k19
  refine Ai fun K21 k21=>?_
  refine Ao ?_
  refine w_q rfl rfl fun K22 k22=>?_
  refine Aa rfl (Ah (v:=(iV ((i:Int)))) h17_26) ?_
  obtain ⟨a24,ha24⟩:=Ed (xs:=rs) (i:=i) (by omega)
  have hr_a24:=hrs _ _ ha24
  refine Ak rfl (Ci i Tryd.underlying41 Aax h17_24 rr (q:=(i:Int)) h17_26 rfl ha24) fun v23 r23=>?_
  refine Ak rfl (Ax Aax rfl r23) fun v25 r25=>?_
  refine Ae rfl (Ct Ahd fun k26=>?_)
  refine l_A (iV ((i:Int))) rfl rfl ?_
  refine Cx rfl (Du (v:=v25) (a:=a24) (c:=Alq) Aax rfl rfl r25 rfl ?_)
  refine Bb (a:=a24) r25 fun ρ27 l27 r27=>?_
  replace rr:=Asa l27 rr
  replace hg:=Glob.mono l27 hg
  replace rb5:=Arv l27 rb5
  replace r23:=Arv l27 r23
  replace r25:=Asa l27 r25
  apply Ac
  apply k22
  refine w_q rfl rfl fun K28 k28=>?_
  refine Aa rfl (Ah (v:=bp5) h17_6) ?_
  refine Aa rfl (Ah (v:=(iV ((x:Int)))) h17_8) ?_
  refine Ak rfl (Ay Found.f_test Tryd.underlying43 rfl rfl ty3 (by decide) rfl r27) fun v29 r29=>?_
  have ⟨g30a,g30b⟩:=At.rng r29
  refine Aa rfl (Bc ty3 rfl r29) ?_
  refine Ak rfl (Ay Found.f_found Tryd.underlying43 rfl rfl ty4 (by decide) rfl r27) fun v31 r31=>?_
  refine Aa rfl (Nw ty4 rfl r31) ?_
  refine Ae rfl (Bn (vs:=[bp5,(iV ((x:Int))),(iV (a24.test)),(.bool (a24.found))]) (v:=(iV (((Bf (Au l (Av x) ⟨a24.test,a24.found⟩):Nat):Int)))) (Px hg rb5 hl (by omega) (by omega)) Tryd.func76 rfl rfl ⟨rfl,rfl,rfl,rfl,trivial⟩ ?_)
  refine l_A (iV (((Bf (Au l (Av x) ⟨a24.test,a24.found⟩):Nat):Int))) rfl rfl ?_
  apply Ac
  apply k28
  refine w_q rfl rfl fun K33 k33=>?_
  refine l_M (iV (((Bf (Au l (Av x) ⟨a24.test,a24.found⟩):Nat):Int))) rfl rfl ?_
  refine Aa rfl (Ek (p:=((Bf (Au l (Av x) ⟨a24.test,a24.found⟩):Nat):Int)) (q:=0) rfl rfl) ?_
  apply Ac
  apply k33
  refine As (t:=((Bf (Au l (Av x) ⟨a24.test,a24.found⟩):Nat):Int) == 0) rfl (fun b34=>?_) (fun b34=>?_)
  ·have q34:=Jo b34
   refine w_q rfl rfl fun K35 k35=>?_
   refine l_M (iV ((i:Int))) rfl rfl ?_
   refine l_A (iV ((i:Int))) rfl rfl ?_
   refine l_A (iV (0)) rfl rfl ?_
   apply Ac
   apply k35
   refine Aj Ghost.drop ?_
   refine Aj (Arw (Arz (Arz l2 l5) l27)) ?_
   refine Aq ?_
   refine hret _ _ _ ?_
   refine ⟨rfl,rfl,Eq.trans (b:=(.tuple #[(iV ((i:Int))),(iV (0))])) (Mk (r:=4) (r':=5) (rs:=[]) (v:=(iV ((i:Int)))) (v':=(iV (0))) (vs:=[]) ⟨rfl,rfl,trivial⟩) ?_⟩
   have hxi:=Zc (l:=l) ha24
   have hxm:Bf (Au l (Av x) ⟨a24.test,a24.found⟩) = Bf (Ba l (rs.take (i + 1))):=(by rw [p17_2,Fq ok,hxi])
   have hi:=Fg (n:=rs.length) p17_1 (by omega) (show firstAt l rs i = true by have h0:=q34; rw [hxm] at h0; simp only [firstAt,Fe]; rw [Uz.1 (show Bf (Ba l (rs.take (i + 1))) = 0 by omega)]; rfl)
   rw [firstV,if_pos hF5]; simp only [firstI,hi] <;> rfl
  have q34:=La b34
  refine Al ?_
  apply k21
  refine Ag rfl rfl ?_
  refine Aa rfl (Br (p:=(i:Int)) (q:=1) h17_26 rfl (z:=(((i + 1):Nat):Int)) (Bo (by first | rfl | omega | (push_cast; rfl)) (by omega) (by omega))) ?_
  refine l_M (iV ((((i + 1):Nat):Int))) rfl rfl ?_
  refine Bj (Arw l27) ?_
  apply Ac
  refine ⟨_,?_,((i + 1)),(Bf (Au l (Av x) ⟨a24.test,a24.found⟩)),rfl,rfl,rfl,rfl,h17_6,h17_24,h17_25,rfl,rfl,(by omega),(Ef p17_1 (by have hxi:=Zc (l:=l) ha24; have hxm:Bf (Au l (Av x) ⟨a24.test,a24.found⟩) = Bf (Ba l (rs.take (i + 1))):=(by rw [p17_2,Fq ok,hxi]); unfold firstAt; rw [Fe]; exact beq_eq_false_iff_ne.2 (fun h=>q34 (by rw [hxm]; have:=Uz.2 (show (Ba l (rs.take (i + 1))).length = 0 by omega); omega)))),(by have hxi:=Zc (l:=l) ha24; have hxm:Bf (Au l (Av x) ⟨a24.test,a24.found⟩) = Bf (Ba l (rs.take (i + 1))):=(by rw [p17_2,Fq ok,hxi]); rw [hxm]),(by have hxi:=Zc (l:=l) ha24; have hxm:Bf (Au l (Av x) ⟨a24.test,a24.found⟩) = Bf (Ba l (rs.take (i + 1))):=(by rw [p17_2,Fq ok,hxi]); rw [hxm]; exact Jx ok),trivial⟩
  omega
 have q20:=of_decide_eq_false b20
 refine Bx ?_
 apply k14
 refine w_q rfl rfl fun K36 k36=>?_
 refine l_A (iV ((-1))) rfl rfl ?_
 refine l_A (iV (0)) rfl rfl ?_
 apply Ac
 apply k36
 refine Aj Ghost.drop ?_
 refine Aj (Arw (Arz l2 l5)) ?_
 refine Aq ?_
 refine hret _ _ _ ?_
 refine ⟨rfl,rfl,Eq.trans (b:=(.tuple #[(iV ((-1))),(iV (0))])) (Mk (r:=4) (r':=5) (rs:=[]) (v:=(iV ((-1)))) (v':=(iV (0))) (vs:=[]) ⟨rfl,rfl,trivial⟩) ?_⟩
 have hn:=Ep (n:=rs.length) fun j hj=>p17_1 j (by omega)
 rw [firstV,if_pos hF5]; simp only [firstI,hn] <;> rfl
end Go.Proofs.YtoefdnbaklajeaaDoor

namespace Go.Proofs.YtoefdnbaklajeaaDoor
open Go Go.WideShapes
/-- A number without a sign of two bytes. -/
structure UH where
  n:Nat
  lt:n < 65536
instance:Dat UH where
  k:=1
  agg:=false
  rep _ cs x:=cs = [.int .u16 (x.n:Int)]
  mono _ h:=h
  len h:=by rw [h]; rfl
  sgl h:=by rw [h]; simp [single]
  one _:=rfl
theorem val_uh {ρ:Ro} {v:Value} {x:UH}:Val ρ v x↔v = .int .u16 (x.n:Int) :=
  ⟨fun ⟨cs,h1,h2⟩=>by rw [h2,show cs = [.int .u16 (x.n:Int)] from h1]; rfl,fun h=>⟨[v],by rw [h]; rfl,rfl⟩⟩
theorem ty68:GoTy Tryd.prog 68 UH:=⟨⟨_,Tryd.underlying68,rfl⟩,⟨_,Ab Tryd.typeInfo68,rfl⟩⟩
theorem y_load_uh {P:Program} {ρ:Ro} {e:Env} {ty t:TypeId} {x:Operand} {p:Value} {a:UH} (hT:GoTy P t UH) (hx:Af e x = p) (hp:At ρ p a):Yld P ρ e (.load t x) ty (.int .u16 (a.n:Int)):=by
  obtain ⟨v,h1,h2⟩:=Ax (ty:=ty) hT hx hp
  rw [val_uh.1 h1] at h2; exact h2
theorem dec_uh {t:TypeId} (ht:Tryd.prog.underlying t = some (.int .u16)) (hc:Tryd.prog.cellsOf t = 1):Apq UH t :=
  ⟨hc,fun H enc W fuel cs x h _=>by
    obtain ⟨n,h1,_,h3⟩:=DataW.trod_int ht h
    simp [Lit.wf,IntKind.min,IntKind.max,IntKind.signed,IntKind.bits] at h3
    refine ⟨⟨n.toNat,by omega⟩,?_⟩
    show cs = [.int .u16 ((n.toNat:Nat):Int)]
    rw [h1,Int.toNat_of_nonneg (by omega)]⟩
section
variable {H:Type} {enc:TypeId × Value→H} {W:World} {r:Reach} {base t:Nat} {v:Value} {d:DataW H} {p:List MemPlace}
set_option maxRecDepth 100000 in
theorem arg_u8 (ht:Tryd.prog.underlying t = some (.int .u8)) (hv:Value.okWide Tryd.prog W r base t v) (h:DataW.Trod enc Tryd.prog W 0 (fun _=>true) true t v d p):∃ n:Nat,v = .int .u8 (n:Int)∧n < 256:=by
  obtain ⟨n,rfl⟩:=okWide_int ht hv
  obtain ⟨fuel,hf⟩:=h
  obtain ⟨m,h1,_,h3⟩:=DataW.trod_int (cs:=[.int .u8 n]) ht hf
  simp [Lit.wf,IntKind.min,IntKind.max,IntKind.signed,IntKind.bits] at h3
  obtain rfl:n = m:=by simpa using h1
  exact ⟨n.toNat,by rw [Int.toNat_of_nonneg (by omega)],by omega⟩
end
/-- The k-th choice,or 0. -/
def chooseN (l:List UH) (k:Nat):Nat:=match l[k]? with | some x=>x.n | none=>0
theorem chooseN_lt {l:List UH} {k:Nat}:chooseN l k < 65536:=by
  unfold chooseN; split
  · rename_i x _; exact x.lt
  · decide
theorem chooseN_at {l:List UH} {k:Nat} {x:UH} (h:l[k]? = some x):chooseN l k = x.n:=by unfold chooseN; rw [h]
theorem chooseN_out {l:List UH} {k:Nat} (h:l.length ≤ k):chooseN l k = 0:=by unfold chooseN; rw [List.getElem?_eq_none h]
end Go.Proofs.YtoefdnbaklajeaaDoor

namespace Go.Proofs.YtoefdnbaklajeaaDoor
open Go
theorem bel_1 {xs:List Nat} {k s:Nat} (hs:s ∈ xs) (h:Pt xs k = 1):Cu s k = true:=by
  unfold Pt at h
  split at h
  · cases h
  · split at h
    · rename_i h2
      have:=List.any_eq_false.1 (Afj.1 h2) s hs
      simpa using this
    · cases h
theorem bel_2 {xs:List Nat} {k s:Nat} (hs:s ∈ xs) (h:Pt xs k = 2):Cu s k = false:=by
  unfold Pt at h
  split at h
  · rename_i h2
    have:=List.any_eq_false.1 (Aat.1 h2) s hs
    simpa using this
  · split at h <;> cases h
end Go.Proofs.YtoefdnbaklajeaaDoor

namespace Go.Proofs.YtoefdnbaklajeaaDoor
open Go
theorem fold_after {l:Lab}:∀ (rs:List Found) (xs:List Nat),rs.foldl (Au l) xs = xs.filter fun s=>rs.all fun r=>Qg l r s
  | [],xs=>(List.filter_eq_self.2 fun _ _=>rfl).symm
  | r :: rs,xs=>by
    rw [List.foldl_cons,fold_after rs]
    unfold Au
    rw [List.filter_filter]
    congr 1
    funext s
    rw [List.all_cons,Bool.and_comm]
theorem remain_filter {l:Lab} {rs:List Found}:Ba l rs = (Hk l).filter fun s=>rs.all fun r=>Qg l r s:=fold_after rs _
theorem mem_remain {l:Lab} {rs:List Found} {s:Nat}:s ∈ Ba l rs↔s ∈ Hk l∧∀ r ∈ rs,Qg l r s = true:=by
  rw [remain_filter,List.mem_filter,List.all_eq_true]
theorem resOk_mem {l:Lab} {rs:List Found}:ResOk l rs↔∀ r ∈ rs,0 ≤ r.test∧r.test < (l.tests.length:Int):=by
  constructor
  · intro h r hr
    obtain ⟨i,hi⟩:=List.getElem?_of_mem hr
    exact h i r hi
  · intro h i r hr
    exact h r (List.mem_of_getElem? hr)
theorem resF_ok {l:Lab} {rs:List Found} (h:Gj l = 0) (hr:ResOk l rs) (hn:rs.length ≤ 8):Hw l rs = 0:=by
  unfold Hw
  rw [Jr]
  refine ⟨h,?_⟩
  rw [if_neg (by omega)]
  refine Fz.2 fun j hj=>?_
  have hx:rs[j]? = some rs[j]:=List.getElem?_eq_getElem hj
  simp only [Vw,hx]
  have:=hr j _ hx
  rw [if_pos (Ge.2 ⟨by omega,by omega⟩)]
theorem checkF_ok {l:Lab} {rs:List Found} (h:Hw l rs = 0) (hn:Ba l rs ≠ []):Cw l rs = 0:=by
  unfold Cw
  rw [Jr]
  refine ⟨h,?_⟩
  rw [if_neg]
  rw [Fe]
  have:(Ba l rs).length ≠ 0:=fun h=>hn (List.eq_nil_of_length_eq_zero h)
  omega
theorem sets_0 {l:Lab} (ok:LabOk l):0 ∈ Hk l:=by
  unfold Hk
  rw [List.mem_filter,List.mem_range]
  have:=ok.most.1
  refine ⟨(Rj ok.n4).1,?_⟩
  have e:De 0 = 0:=by decide
  unfold Adf
  rw [e]
  exact decide_eq_true this
theorem sets_lt {l:Lab} (ok:LabOk l) {s:Nat} (h:s ∈ Hk l):s < 16:=(Qp ok (rs:=[])).2 s h
theorem can_one {t:FTest} {s:Nat} (h:Afm t s true = false):Afm t s false = true:=by
  unfold Afm at h ⊢
  simp only [if_true,Bool.or_eq_false_iff] at h
  rw [if_neg (by decide),Bool.not_eq_true']
  rw [List.any_eq_false]
  intro k hk
  have h2:=List.any_eq_false.1 h.2 k hk
  unfold Ahz at h2
  unfold Akd
  cases hb:Cu s k with
  | false=>simp
  | true =>
    rw [hb] at h2
    cases hx:t.sees[k]? with
    | none=>simp
    | some b =>
      rw [hx] at h2
      simp only [Bool.true_and,bne_iff_ne,ne_eq,Decidable.not_not] at h2
      simp [h2]
theorem true_law {l:Lab} {rs:List Found} {set:Nat} (h:Gj l = 0) (hr:ResOk l rs) (hn:rs.length ≤ 8) (hs:set ∈ Hk l) (hk:∀ r ∈ rs,Qg l r set = true) :
    Cw l rs = 0∧firstV l rs = .tuple #[.int .i64 (-1),.int .i64 0]∧(Sk l rs).length = l.kinds.length∧∀ (k:Nat) (b:Int),(Sk l rs)[k]? = some b→(b = 1→Cu set k = true)∧(b = 2→Cu set k = false):=by
  have hm:set ∈ Ba l rs:=mem_remain.2 ⟨hs,hk⟩
  have hres:=resF_ok h hr hn
  have hc:=checkF_ok hres (List.ne_nil_of_mem hm)
  refine ⟨hc,?_,?_,?_⟩
  · unfold firstV
    rw [if_pos hres]
    have:firstI l rs = -1:=by
      unfold firstI
      rw [Ep]
      intro j hj
      unfold firstAt
      have h2:set ∈ Ba l (rs.take (j + 1)):=mem_remain.2 ⟨hs,fun r hr=>hk r (List.mem_of_mem_take hr)⟩
      have h3:=List.length_pos_of_mem h2
      rw [Fe]
      have:((Ba l (rs.take (j + 1))).length:Int) ≠ 0:=by omega
      simpa using this
    rw [this]
  · unfold Sk; rw [if_pos hc]; simp
  · intro k b hb
    unfold Sk at hb
    rw [if_pos hc,List.getElem?_map] at hb
    obtain ⟨a,ha,rfl⟩:=Option.map_eq_some_iff.1 hb
    obtain ⟨_,h2⟩:=List.getElem?_eq_some_iff.1 ha
    simp only [List.getElem_range] at h2
    subst h2
    exact ⟨bel_1 hm,bel_2 hm⟩
end Go.Proofs.YtoefdnbaklajeaaDoor

namespace Go.Proofs.YtoefdnbaklajeaaDoor
open Go
set_option maxRecDepth 100000 in
theorem c_choose {mn:Bool} {X:Frame→List Frame→Ro→Own→Cy→Prop} {ρ:Ro} {σ:Own} {picks:List UH} {vk:Value} {k:Nat} (rk:Val ρ vk picks):CallsH (CX mn X) 30 #[vk,(iV ((k:Int)))] ρ σ (fun w ρ' σ'=>ρ' = ρ∧σ' = σ∧w = (iV (((chooseN picks k:Nat):Int)))):=by
 refine Bh (n:=14) (args:=[vk,(iV ((k:Int)))]) [4] Tryd.func30 rfl rfl rfl rfl fun Q hret hnor=>?_
 refine w_q rfl rfl fun K1 k1=>?_
 refine l_A (iV (0)) rfl rfl ?_
 apply Ac
 apply k1
 refine Ai fun K2 k2=>?_
 refine w_q rfl rfl fun K3 k3=>?_
 refine l_M (iV ((k:Int))) rfl rfl ?_
 refine l_M vk rfl rfl ?_
 have g4:=Val.len rk
 refine Aa rfl (Ce (el:=68) Tryd.underlying55 rfl rk) ?_
 refine Aa rfl (Da (p:=(k:Int)) (q:=((picks.length:Nat):Int)) rfl rfl) ?_
 apply Ac
 apply k3
 refine As (t:=decide ((k:Int) < ((picks.length:Nat):Int))) rfl (fun b5=>?_) (fun b5=>?_)
 ·have q5:=of_decide_eq_true b5
  refine w_q rfl rfl fun K6 k6=>?_
  refine l_M vk rfl rfl ?_
  refine l_M (iV ((k:Int))) rfl rfl ?_
  obtain ⟨a8,ha8⟩:=Ed (xs:=picks) (i:=k) (by omega)
  refine Ak rfl (Ci k Tryd.underlying55 ty68 rfl rk (q:=(k:Int)) rfl rfl ha8) fun v7 r7=>?_
  have g9:=a8.lt
  refine Aa rfl (y_load_uh ty68 rfl r7) ?_
  refine Aa rfl (Abu (p:=((a8.n:Nat):Int)) (z:=((a8.n:Nat):Int)) Tryd.underlying68 Tryd.underlying3 rfl (Bo rfl (by omega) (by omega))) ?_
  refine l_A (iV (((a8.n:Nat):Int))) rfl rfl ?_
  apply Ac
  apply k6
  refine Aq ?_
  refine hret _ _ _ ?_
  refine ⟨rfl,rfl,Eq.trans (b:=(iV (((a8.n:Nat):Int)))) rfl ?_⟩
  rw [chooseN_at ha8]
 have q5:=of_decide_eq_false b5
 refine Al ?_
 apply k2
 refine w_q rfl rfl fun K10 k10=>?_
 refine l_A (iV (0)) rfl rfl ?_
 apply Ac
 apply k10
 refine Aq ?_
 refine hret _ _ _ ?_
 refine ⟨rfl,rfl,Eq.trans (b:=(iV (0))) rfl ?_⟩
 rw [chooseN_out (by omega)]; rfl
end Go.Proofs.YtoefdnbaklajeaaDoor

namespace Go.Proofs.YtoefdnbaklajeaaDoor
open Go
/-- A set of kinds that can be in a tin,as is chosen. -/
def realN (l:Lab) (k:Nat):Nat:=(Hk l).getD (k % (Bw (Hk l)).length) 0
theorem sets_pos {l:Lab} (ok:LabOk l):0 < (Bw (Hk l)).length:=by
 rw [Fe]; exact List.length_pos_of_mem (sets_0 ok)
theorem real_at {l:Lab} {k b:Nat} (h:(Hk l)[k % (Bw (Hk l)).length]? = some b):realN l k = b:=by
 unfold realN; rw [List.getD_eq_getElem?_getD,h]; rfl
theorem real_in {l:Lab} {k:Nat} (ok:LabOk l):realN l k ∈ Hk l:=by
 have h:=Nat.mod_lt k (sets_pos ok)
 have h2:k % (Bw (Hk l)).length < (Hk l).length:=by rw [Fe] at h ⊢; exact h
 rw [real_at (List.getElem?_eq_getElem h2)]
 exact List.getElem_mem h2
/-- What a test shows of a tin,as is chosen. -/
def shownB (l:Lab) (set t pick:Nat):Bool:=match l.tests[t]? with
 | some x=>Afm x set true && (pick % 2 == 1 || !Afm x set false)
 | none=>false
theorem shown_keep {l:Lab} {set t pick:Nat} (ht:t < l.tests.length):Qg l ⟨(t:Int),shownB l set t pick⟩ set = true:=by
 have hx:l.tests[t]? = some l.tests[t]:=List.getElem?_eq_getElem ht
 unfold Qg
 simp only [Int.toNat_natCast,hx]
 unfold shownB
 rw [hx]
 simp only
 cases h1:Afm l.tests[t] set true with
 | false=>simp only [Bool.false_and]; exact can_one h1
 | true =>
  cases h2:Afm l.tests[t] set false with
  | false=>simp [h1]
  | true =>
   cases h3:pick % 2 == 1 with
   | true=>simp [h1]
   | false=>simp [h2]
def shownAt (l:Lab) (set:Nat) (picks:List UH) (i:Nat):Found:=⟨((chooseN picks (2 * i) % l.tests.length:Nat):Int),shownB l set (chooseN picks (2 * i) % l.tests.length) (chooseN picks (2 * i + 1))⟩
def shownL (l:Lab) (set:Nat) (picks:List UH) (many:Nat):List Found:=if l.tests.length = 0 then [] else (List.range many).map (shownAt l set picks)
theorem shown_law {l:Lab} {set many:Nat} {picks:List UH}:ResOk l (shownL l set picks many)∧(shownL l set picks many).length ≤ many∧∀ r ∈ shownL l set picks many,Qg l r set = true:=by
 unfold shownL
 split
 ·exact ⟨fun i r h=>(by cases h),Nat.zero_le _,fun r h=>(by cases h)⟩
 ·rename_i h0
  have key:∀ r ∈ (List.range many).map (shownAt l set picks),(0 ≤ r.test∧r.test < (l.tests.length:Int))∧Qg l r set = true:=fun r hr=>by
   obtain ⟨i,_,rfl⟩:=List.mem_map.1 hr
   have hm:=Nat.mod_lt (chooseN picks (2 * i)) (Nat.pos_of_ne_zero h0)
   exact ⟨⟨Int.natCast_nonneg _,Int.ofNat_lt.2 hm⟩,shown_keep hm⟩
  exact ⟨resOk_mem.2 fun r hr=>(key r hr).1,by simp,fun r hr=>(key r hr).2⟩
set_option maxRecDepth 100000 in
theorem c_real {mn:Bool} {X:Frame→List Frame→Ro→Own→Cy→Prop} {ρ:Ro} {σ:Own} {l:Lab} {vl:Value} {pick:Nat} (rl:Val ρ vl l) (ok:LabOk l) (hp:pick < 65536):CallsH (CX mn X) 47 #[vl,(iV ((pick:Int)))] ρ σ (fun w ρ' σ'=>ρ' = ρ∧σ' = σ∧w = (iV (((realN l pick:Nat):Int)))):=by
 have hsp:=sets_pos ok
 have hml:=Nat.mod_lt pick hsp
 refine Bh (n:=15) (args:=[vl,(iV ((pick:Int)))]) [4] Tryd.func47 rfl rfl rfl rfl fun Q hret hnor=>?_
 refine w_q rfl rfl fun K1 k1=>?_
 refine Ae rfl (Eb (v:=vl) rfl fun k2=>?_)
 refine Bb (a:=l) rl fun ρ2 l2 r2=>?_
 replace rl:=Asa l2 rl
 refine l_A (iV (0)) rfl rfl ?_
 apply Ac
 apply k1
 refine w_q rfl rfl fun K3 k3=>?_
 refine Ak rfl (Ax Aaj rfl r2) fun v4 r4=>?_
 refine Ae rfl (Cm (vs:=[v4]) (c_refSets r4 ok) Tryd.func101 rfl rfl ⟨rfl,trivial⟩ fun v5 ρ5 σ5 hc5=>?_)
 obtain ⟨l5,s5,r5⟩:=hc5
 replace s5:=s5.symm; subst s5
 replace r2:=Arv l5 r2
 replace r4:=Asa l5 r4
 refine l_A v5 rfl rfl ?_
 apply Ac
 apply k3
 refine w_q rfl rfl fun K6 k6=>?_
 refine l_M v5 rfl rfl ?_
 refine l_M (iV ((pick:Int))) rfl rfl ?_
 refine l_M v5 rfl rfl ?_
 have g7:=Val.len r5
 refine Aa rfl (Ce (el:=3) Tryd.underlying30 rfl r5) ?_
 refine Aa rfl (y_rem (p:=(pick:Int)) (q:=(((Bw (Hk l)).length:Nat):Int)) rfl rfl (by omega) (z:=(((pick % (Bw (Hk l)).length):Nat):Int)) rfl) ?_
 obtain ⟨a9,ha9⟩:=Ed (xs:=Bw (Hk l)) (i:=(pick % (Bw (Hk l)).length)) (by omega)
 obtain ⟨b10,hb10,hz10⟩:=Uc ha9
 subst hz10
 refine Ak rfl (Ci ((pick % (Bw (Hk l)).length)) Tryd.underlying30 ty3 rfl r5 (q:=(((pick % (Bw (Hk l)).length):Nat):Int)) rfl rfl ha9) fun v8 r8=>?_
 have ⟨g11a,g11b⟩:=At.rng r8
 refine Aa rfl (Bc ty3 rfl r8) ?_
 refine l_A (iV ((b10:Int))) rfl rfl ?_
 apply Ac
 apply k6
 refine Aj (Arw (Arz l2 l5)) ?_
 refine Aq ?_
 refine hret _ _ _ ?_
 refine ⟨rfl,rfl,Eq.trans (b:=(iV ((b10:Int)))) rfl ?_⟩
 rw [real_at hb10]
set_option maxRecDepth 100000 in
theorem c_shown {mn:Bool} {X:Frame→List Frame→Ro→Own→Cy→Prop} {ρ:Ro} {σ:Own} {l:Lab} {vl:Value} {set t pick:Nat} (rl:Val ρ vl l) (hs:set < 65536) (ht:t < l.tests.length) (hp:pick < 65536):CallsH (CX mn X) 54 #[vl,(iV ((set:Int))),(iV ((t:Int))),(iV ((pick:Int)))] ρ σ (fun w ρ' σ'=>ρ' = ρ∧σ' = σ∧w = (.bool (shownB l set t pick))):=by
 refine Bh (n:=28) (args:=[vl,(iV ((set:Int))),(iV ((t:Int))),(iV ((pick:Int)))]) [8] Tryd.func54 rfl rfl rfl rfl fun Q hret hnor=>?_
 refine w_q rfl rfl fun K1 k1=>?_
 refine Ae rfl (Eb (v:=vl) rfl fun k2=>?_)
 refine Bb (a:=l) rl fun ρ2 l2 r2=>?_
 replace rl:=Asa l2 rl
 refine l_A (.bool (false)) rfl rfl ?_
 apply Ac
 apply k1
 refine w_q rfl rfl fun K3 k3=>?_
 refine Ak rfl (Ay Lab.f_tests Tryd.underlying40 rfl rfl Vd (by decide) rfl r2) fun v4 r4=>?_
 refine Ak rfl (Ax Vd rfl r4) fun v5 r5=>?_
 refine l_M (iV ((t:Int))) rfl rfl ?_
 obtain ⟨a7,ha7⟩:=Ed (xs:=l.tests) (i:=t) (by omega)
 refine Ak rfl (Ci t Tryd.underlying38 Td rfl r5 (q:=(t:Int)) rfl rfl ha7) fun v6 r6=>?_
 refine Ak rfl (Ax Td rfl r6) fun v8 r8=>?_
 refine Ae rfl (Ct Vm fun k9=>?_)
 refine Cx rfl (Du (v:=v8) (a:=a7) (c:=Aaf) Td rfl rfl r8 rfl ?_)
 refine Bb (a:=a7) r8 fun ρ10 l10 r10=>?_
 replace r2:=Arv l10 r2
 replace r4:=Arv l10 r4
 replace r5:=Asa l10 r5
 replace r6:=Arv l10 r6
 replace r8:=Asa l10 r8
 apply Ac
 apply k3
 refine Ai fun K11 k11=>?_
 refine w_q rfl rfl fun K12 k12=>?_
 refine Ak rfl (Ax Td rfl r10) fun v13 r13=>?_
 refine l_M (iV ((set:Int))) rfl rfl ?_
 refine Ae rfl (Bn (vs:=[v13,(iV ((set:Int))),(.bool (true))]) (v:=(.bool (Afm a7 set true))) (c_Can r13 (by omega)) Tryd.func107 rfl rfl ⟨rfl,rfl,rfl,trivial⟩ ?_)
 refine Aa rfl (Ix (k:=Afm a7 set true) rfl) ?_
 apply Ac
 apply k12
 refine As (t:=!(Afm a7 set true)) rfl (fun b14=>?_) (fun b14=>?_)
 ·have b15:=not_eq_t b14
  refine w_q rfl rfl fun K16 k16=>?_
  refine l_A (.bool (false)) rfl rfl ?_
  apply Ac
  apply k16
  refine Aj (Arw (Arz l2 l10)) ?_
  refine Aq ?_
  refine hret _ _ _ ?_
  refine ⟨rfl,rfl,Eq.trans (b:=(.bool (false))) rfl ?_⟩
  simp [shownB,ha7,b14,b15]
  first | done | exact .inl (by omega) | (intro h; omega)
 have b17:=not_eq_f b14
 refine Al ?_
 apply k11
 refine w_q rfl rfl fun K18 k18=>?_
 refine l_M (iV ((pick:Int))) rfl rfl ?_
 refine Aa rfl (y_rem (p:=(pick:Int)) (q:=2) rfl rfl (by omega) (z:=(((pick % 2):Nat):Int)) rfl) ?_
 refine Aa rfl (Ek (p:=(((pick % 2):Nat):Int)) (q:=1) rfl rfl) ?_
 refine l_M (.bool ((((pick % 2):Nat):Int) == 1)) rfl rfl ?_
 refine Cn ((((pick % 2):Nat):Int) == 1) (fun b19=>?_) (fun b19=>?_)
 ·have q19:=Jo b19
  refine Ap (Bl rfl rfl rfl b19) ?_
  refine Ap (Bl rfl rfl rfl b19) ?_
  refine Ap (Bl rfl rfl rfl b19) ?_
  refine Ap (Bl rfl rfl rfl b19) ?_
  refine Aa rfl (Bt rfl b19 (v:=(.bool (true))) rfl) ?_
  refine l_A (.bool (true)) rfl rfl ?_
  apply Ac
  apply k18
  refine Aj (Arw (Arz l2 l10)) ?_
  refine Aq ?_
  refine hret _ _ _ ?_
  refine ⟨rfl,rfl,Eq.trans (b:=(.bool (true))) rfl ?_⟩
  simp [shownB,ha7,b14,b17,b19]
  first | done | exact .inl (by omega) | (intro h; omega)
 have q19:=La b19
 refine Ak (Ar rfl rfl rfl b19) (Ax Td rfl r10) fun v20 r20=>?_
 refine l_M (iV ((set:Int))) (Ar rfl rfl rfl b19) rfl ?_
 refine Ae (Ar rfl rfl rfl b19) (Bn (vs:=[v20,(iV ((set:Int))),(.bool (false))]) (v:=(.bool (Afm a7 set false))) (c_Can r20 (by omega)) Tryd.func107 rfl rfl ⟨rfl,rfl,rfl,trivial⟩ ?_)
 refine Aa (Ar rfl rfl rfl b19) (Ix (k:=Afm a7 set false) rfl) ?_
 refine Aa rfl (Bm rfl b19 (v:=(.bool (!(Afm a7 set false)))) rfl) ?_
 refine l_A (.bool (!(Afm a7 set false))) rfl rfl ?_
 apply Ac
 apply k18
 refine Aj (Arw (Arz l2 l10)) ?_
 refine Aq ?_
 refine hret _ _ _ ?_
 refine ⟨rfl,rfl,Eq.trans (b:=(.bool (!(Afm a7 set false)))) rfl ?_⟩
 simp [shownB,ha7,b14,b17,b19]
 first | done | exact .inl (by omega) | (intro h; omega)
set_option maxRecDepth 100000 in
theorem c_Shown {mn:Bool} {X:Frame→List Frame→Ro→Own→Cy→Prop} {ρ:Ro} {σ:Own} {l:Lab} {vl vk:Value} {set many:Nat} {picks:List UH} (rl:Val ρ vl l) (rk:Val ρ vk picks) (hs:set < 65536) (hm:many ≤ 8):CallsH (CX mn X) 48 #[vl,(iV ((set:Int))),vk,(iV ((many:Int)))] ρ σ (fun w ρ' σ'=>Ro.le ρ ρ'∧σ' = σ∧Val ρ' w (shownL l set picks many:List Found)):=by
 refine Bh (n:=46) (args:=[vl,(iV ((set:Int))),vk,(iV ((many:Int)))]) [8] Tryd.func48 rfl rfl rfl rfl fun Q hret hnor=>?_
 refine w_q rfl rfl fun K1 k1=>?_
 refine Ae rfl (Eb (v:=vl) rfl fun k2=>?_)
 refine Bb (a:=l) rl fun ρ2 l2 r2=>?_
 replace rl:=Asa l2 rl
 replace rk:=Asa l2 rk
 refine l_A (.slice none 0 0) rfl rfl ?_
 apply Ac
 apply k1
 refine w_q rfl rfl fun K3 k3=>?_
 refine l_A (.slice none 0 0) rfl rfl ?_
 apply Ac
 apply k3
 refine Ai fun K4 k4=>?_
 refine w_q rfl rfl fun K5 k5=>?_
 refine l_A (iV (0)) rfl rfl ?_
 apply Ac
 apply k5
 refine Ao ?_
 refine Cc (fun mm ee dd ρ' σ'=>∃ (i:Nat) (ov6_9:Value) (og6_9:Own),(many - i) = mm∧[] = dd∧Ro.le ρ2 ρ'∧(og6_9 ++ σ) = σ'∧ee 1 = (iV ((set:Int)))∧ee 2 = vk∧ee 3 = (iV ((many:Int)))∧ee 4 = (.pointer (some ⟨k2,0,none⟩))∧ee 9 = ov6_9∧ee 10 = (iV ((i:Int)))∧(i ≤ many)∧(l.tests.length = 0→i = 0)∧Grow ρ' 43 ov6_9 ((List.range i).map (shownAt l set picks)) og6_9∧True) (m:=_) ⟨0,(.slice none 0 0),[],rfl,rfl,Ary,rfl,rfl,rfl,rfl,rfl,rfl,rfl,(Nat.zero_le _),(fun _=>rfl),Hn,trivial⟩ ?_
 rintro m6 e6 _ ρ6 _ ⟨i,ov6_9,og6_9,rfl,rfl,l6,rfl,h6_1,h6_2,h6_3,h6_4,h6_9,h6_10,p6_0,p6_1,OG6_9,_⟩
 replace rk:=Asa l6 rk
 replace r2:=Arv l6 r2
 refine Ai fun K7 k7=>?_
 refine w_q rfl rfl fun K8 k8=>?_
 refine Aa rfl (Ah (v:=(iV ((i:Int)))) h6_10) ?_
 refine Aa rfl (Ah (v:=(iV ((many:Int)))) h6_3) ?_
 refine Aa rfl (Da (p:=(i:Int)) (q:=(many:Int)) rfl rfl) ?_
 refine l_M (.bool (decide ((i:Int) < (many:Int)))) rfl rfl ?_
 refine Cn (decide ((i:Int) < (many:Int))) (fun b9=>?_) (fun b9=>?_)
 ·have q9:=of_decide_eq_true b9
  refine Ak (Ar rfl rfl rfl b9) (Ay Lab.f_tests Tryd.underlying40 rfl rfl Vd (by decide) h6_4 r2) fun v10 r10=>?_
  refine Ak (Ar rfl rfl rfl b9) (Ax Vd rfl r10) fun v11 r11=>?_
  have g12:=Val.len r11
  refine Aa (Ar rfl rfl rfl b9) (Ce (el:=108) Tryd.underlying38 rfl r11) ?_
  refine Aa (Ar rfl rfl rfl b9) (Gk (p:=((l.tests.length:Nat):Int)) (q:=0) rfl rfl) ?_
  refine Aa rfl (Bt rfl b9 (v:=(.bool (decide (((l.tests.length:Nat):Int) > 0)))) rfl) ?_
  apply Ac
  apply k8
  refine As (t:=decide (((l.tests.length:Nat):Int) > 0)) rfl (fun b13=>?_) (fun b13=>?_)
  ·have q13:=of_decide_eq_true b13
   refine Al ?_
   apply k7
   refine Ai fun K14 k14=>?_
   refine Ao ?_
   refine Ai fun K15 k15=>?_
   refine Dc [0,1,2,3,4,5,6,7,8] (by kernel_rfl) rfl rfl ?_
   refine Be (i:=0) Aov rfl (by kernel_rfl) rfl Ary rfl (Ah (v:=vk) h6_2) ?_
   refine Be (i:=1) Aof rfl (by kernel_rfl) rfl Ary rfl (Ah (v:=(iV ((i:Int)))) h6_10) ?_
   refine Be (i:=2) Apd rfl (by kernel_rfl) rfl Ary rfl (Vz (p:=2) (q:=(i:Int)) rfl rfl (z:=(((2 * i):Nat):Int)) (Bo (by first | rfl | omega | (push_cast; rfl)) (by omega) (by omega))) ?_
   refine Cd (i:=4) [o1,o1,o1,o0,o1,o0,o0,o0,o0] rfl (by kernel_rfl) rfl Ary rfl (Ay Lab.f_tests Tryd.underlying40 rfl rfl Vd (by decide) h6_4 r2) fun v16 r16=>?_
   refine Cd (i:=5) [o1,o1,o1,o0,o1,o1,o0,o0,o0] rfl (by kernel_rfl) rfl Ary rfl (Ax Vd rfl r16) fun v17 r17=>?_
   have g18:=Val.len r17
   refine Be (i:=6) [o1,o1,o1,o0,o1,o1,o1,o0,o0] rfl (by kernel_rfl) rfl Ary rfl (Ce (el:=108) Tryd.underlying38 rfl r17) ?_
   have hch19:=chooseN_lt (l:=picks) (k:=((2 * i)))
   refine Dj (i:=3) Aow rfl (by kernel_rfl) rfl rfl (Bn (vs:=[vk,(iV ((((2 * i):Nat):Int)))]) (v:=(iV ((((chooseN picks ((2 * i))):Nat):Int)))) (c_choose rk) Tryd.func30 rfl rfl ⟨rfl,rfl,trivial⟩ ⟨Ary,?_⟩)
   have hml20:=Nat.mod_lt ((chooseN picks ((2 * i)))) (show 0 < l.tests.length by omega)
   refine Bg (i:=7) Anz rfl (by kernel_rfl) rfl Ary rfl (y_rem (p:=(((chooseN picks ((2 * i))):Nat):Int)) (q:=((l.tests.length:Nat):Int)) rfl rfl (by omega) (z:=((((chooseN picks ((2 * i))) % l.tests.length):Nat):Int)) rfl) ?_
   refine Bg (i:=8) Anb rfl (by kernel_rfl) rfl Ary rfl (Cp (v:=(iV (((((chooseN picks ((2 * i))) % l.tests.length):Nat):Int)))) rfl) ?_
   refine Ec rfl ?_
   apply k15
   refine Dc [0,1,2,3,4,5,6,7,8,9,10,11,12,13,14] (by kernel_rfl) rfl rfl ?_
   refine Be (i:=0) Anc rfl (by kernel_rfl) rfl Ary rfl (Ah (v:=ov6_9) h6_9) ?_
   refine Be (i:=1) Aop rfl (by kernel_rfl) rfl Ary rfl (Ah (v:=(iV (((((chooseN picks ((2 * i))) % l.tests.length):Nat):Int)))) rfl) ?_
   refine Cd (i:=2) And rfl (by kernel_rfl) rfl Ary rfl (Ax Aaj h6_4 r2) fun v21 r21=>?_
   refine Be (i:=3) Aot rfl (by kernel_rfl) rfl Ary rfl (Ah (v:=(iV ((set:Int)))) h6_1) ?_
   refine Be (i:=4) Apg rfl (by kernel_rfl) rfl Ary rfl (Ah (v:=(iV (((((chooseN picks ((2 * i))) % l.tests.length):Nat):Int)))) rfl) ?_
   refine Be (i:=5) Anx rfl (by kernel_rfl) rfl Ary rfl (Ah (v:=vk) h6_2) ?_
   refine Bg (i:=6) Amz rfl (by kernel_rfl) rfl Ary rfl (Ah (v:=(iV ((i:Int)))) h6_10) ?_
   refine Bg (i:=7) [o1,o1,o1,o1,o1,o1,o1,o1,o0,o0,o0,o0,o0,o0,o0] rfl (by kernel_rfl) rfl Ary rfl (Vz (p:=2) (q:=(i:Int)) rfl rfl (z:=(((2 * i):Nat):Int)) (Bo (by first | rfl | omega | (push_cast; rfl)) (by omega) (by omega))) ?_
   refine Bg (i:=8) [o1,o1,o1,o1,o1,o1,o1,o1,o1,o0,o0,o0,o0,o0,o0] rfl (by kernel_rfl) rfl Ary rfl (Br (p:=(((2 * i):Nat):Int)) (q:=1) rfl rfl (z:=((((2 * i) + 1):Nat):Int)) (Bo (by first | rfl | omega | (push_cast; rfl)) (by omega) (by omega))) ?_
   have hch22:=chooseN_lt (l:=picks) (k:=(((2 * i) + 1)))
   refine Dj (i:=9) [o1,o1,o1,o1,o1,o1,o1,o1,o1,o1,o0,o0,o0,o0,o0] rfl (by kernel_rfl) rfl rfl (Bn (vs:=[vk,(iV (((((2 * i) + 1):Nat):Int)))]) (v:=(iV ((((chooseN picks (((2 * i) + 1))):Nat):Int)))) (c_choose rk) Tryd.func30 rfl rfl ⟨rfl,rfl,trivial⟩ ⟨Ary,?_⟩)
   refine Dj (i:=10) [o1,o1,o1,o1,o1,o1,o1,o1,o1,o1,o1,o0,o0,o0,o0] rfl (by kernel_rfl) rfl rfl (Bn (vs:=[v21,(iV ((set:Int))),(iV (((((chooseN picks ((2 * i))) % l.tests.length):Nat):Int))),(iV ((((chooseN picks (((2 * i) + 1))):Nat):Int)))]) (v:=(.bool (shownB l set (((chooseN picks ((2 * i))) % l.tests.length)) ((chooseN picks (((2 * i) + 1))))))) (c_shown r21 (by omega) (Nat.mod_lt _ (by omega)) (by omega)) Tryd.func54 rfl rfl ⟨rfl,rfl,rfl,rfl,trivial⟩ ⟨Ary,?_⟩)
   have r23:Val ρ6 (.agg #[(iV (((((chooseN picks ((2 * i))) % l.tests.length):Nat):Int))),(.bool (shownB l set (((chooseN picks ((2 * i))) % l.tests.length)) ((chooseN picks (((2 * i) + 1))))))]) (⟨((((chooseN picks ((2 * i))) % l.tests.length):Nat):Int),shownB l set (((chooseN picks ((2 * i))) % l.tests.length)) ((chooseN picks (((2 * i) + 1))))⟩:Found):=Found.shut (x:=(⟨((((chooseN picks ((2 * i))) % l.tests.length):Nat):Int),shownB l set (((chooseN picks ((2 * i))) % l.tests.length)) ((chooseN picks (((2 * i) + 1))))⟩:Found)) (show I64 (((((chooseN picks ((2 * i))) % l.tests.length):Nat):Int)) from by constructor <;> omega)
   refine Bg (i:=11) [o1,o1,o1,o1,o1,o1,o1,o1,o1,o1,o1,o1,o0,o0,o0] rfl (by kernel_rfl) rfl Ary rfl (Dm (ns:=[1,1]) (vs:=[(0,(iV (((((chooseN picks ((2 * i))) % l.tests.length):Nat):Int)))),(1,(.bool (shownB l set (((chooseN picks ((2 * i))) % l.tests.length)) ((chooseN picks (((2 * i) + 1)))))))]) (zc:=Alq) (cs:=[(iV (((((chooseN picks ((2 * i))) % l.tests.length):Nat):Int))),(.bool (shownB l set (((chooseN picks ((2 * i))) % l.tests.length)) ((chooseN picks (((2 * i) + 1))))))]) Tryd.underlying43 Ahd rfl ⟨⟨_,Ab Tryd.typeInfo3,rfl⟩,⟨_,Ab Tryd.typeInfo4,rfl⟩,trivial⟩ (EvB.map ⟨⟨rfl,rfl⟩,⟨rfl,rfl⟩,trivial⟩) ((Bd (cs:=[(iV (((((chooseN picks ((2 * i))) % l.tests.length):Nat):Int)))]) rfl rfl (Nat.le_of_ble_eq_true rfl)).trans ((Bd (cs:=[(.bool (shownB l set (((chooseN picks ((2 * i))) % l.tests.length)) ((chooseN picks (((2 * i) + 1))))))]) rfl rfl (Nat.le_of_ble_eq_true rfl)).trans rfl))) ?_
   refine Dj (i:=12) Aod rfl (by kernel_rfl) rfl rfl (Bi (α:=Found) (xs:=[(⟨((((chooseN picks ((2 * i))) % l.tests.length):Nat):Int),shownB l set (((chooseN picks ((2 * i))) % l.tests.length)) ((chooseN picks (((2 * i) + 1))))⟩:Found)]) (vs:=[(.agg #[(iV (((((chooseN picks ((2 * i))) % l.tests.length):Nat):Int))),(.bool (shownB l set (((chooseN picks ((2 * i))) % l.tests.length)) ((chooseN picks (((2 * i) + 1))))))])]) Tryd.underlying41 Aax Ahd rfl (by decide) (Dl (os:=[.tmp 42]) ⟨rfl,trivial⟩) ⟨r23,trivial⟩ rfl (by decide) fun k24 cs24 R24=>⟨Ary,?_⟩)
   have G24:Grow ρ6 43 (.slice (some ⟨k24,0,none⟩) 1 1) ([(⟨((((chooseN picks ((2 * i))) % l.tests.length):Nat):Int),shownB l set (((chooseN picks ((2 * i))) % l.tests.length)) ((chooseN picks (((2 * i) + 1))))⟩:Found)]:List Found) [(k24,Res.obj (.cells cs24.toArray 43 (0,0)))]:=Bs R24 rfl (by decide)
   refine Ls G24 fun ρ26 l26 r26=>?_
   replace rk:=Asa l26 rk
   replace r2:=Arv l26 r2
   replace OG6_9:=Grow.mono l26 OG6_9
   replace r21:=Asa l26 r21
   replace r23:=Asa l26 r23
   refine Dj (i:=13) Aoc rfl (by kernel_rfl) rfl rfl (Fx (σ:=σ) (gr:=og6_9) (xs:=(List.range i).map (shownAt l set picks)) (ys:=([(⟨((((chooseN picks ((2 * i))) % l.tests.length):Nat):Int),shownB l set (((chooseN picks ((2 * i))) % l.tests.length)) ((chooseN picks (((2 * i) + 1))))⟩:Found)]:List Found)) Tryd.underlying41 Tryd.underlying41 (Ab Tryd.typeInfo43) rfl (Nat.le_of_ble_eq_true rfl) rfl rfl rfl rfl OG6_9 r26 (by simp only [List.length_append,List.length_map,List.length_range,List.length_cons,List.length_nil] at *; omega) fun v25 gr25 G25=>⟨l26,?_⟩)
   refine Bg (i:=14) Aoe rfl (by kernel_rfl) rfl l26 rfl (Cp (v:=v25) rfl) ?_
   refine Ec rfl ?_
   apply k14
   refine Ag rfl rfl ?_
   refine Aa rfl (Ah (v:=(iV ((i:Int)))) h6_10) ?_
   refine Aa rfl (Br (p:=(i:Int)) (q:=1) rfl rfl (z:=(((i + 1):Nat):Int)) (Bo (by first | rfl | omega | (push_cast; rfl)) (by omega) (by omega))) ?_
   refine l_A (iV ((((i + 1):Nat):Int))) rfl rfl ?_
   apply Ac
   refine ⟨_,?_,((i + 1)),v25,gr25,rfl,rfl,(Arz l6 l26),rfl,h6_1,h6_2,h6_3,h6_4,rfl,rfl,(by omega),(fun h=>absurd h (by omega)),(Ga (by rw [List.range_succ,List.map_append]; rfl) G25),trivial⟩
   omega
  have q13:=of_decide_eq_false b13
  refine Bx ?_
  apply k4
  refine w_q rfl rfl fun K27 k27=>?_
  refine Aa rfl (Ah (v:=ov6_9) h6_9) ?_
  refine l_A ov6_9 rfl rfl ?_
  apply Ac
  apply k27
  refine Gy OG6_9 fun ρ28 l28 r28=>?_
  refine Aq ?_
  refine hret _ _ _ ?_
  refine ⟨(Arz (Arz l2 l6) l28),rfl,Aci (v:=ov6_9) rfl (Val.cast ?_ r28)⟩
  ·unfold shownL; split
   ·rename_i h0; rw [p6_1 h0]; rfl
   ·rw [show i = many by omega]
 have q9:=of_decide_eq_false b9
 refine Ap (Bl rfl rfl rfl b9) ?_
 refine Ap (Bl rfl rfl rfl b9) ?_
 refine Ap (Bl rfl rfl rfl b9) ?_
 refine Ap (Bl rfl rfl rfl b9) ?_
 refine Aa rfl (Bm rfl b9 (v:=(.bool (false))) rfl) ?_
 apply Ac
 apply k8
 refine Cg rfl rfl ?_
 refine Bx ?_
 apply k4
 refine w_q rfl rfl fun K29 k29=>?_
 refine Aa rfl (Ah (v:=ov6_9) h6_9) ?_
 refine l_A ov6_9 rfl rfl ?_
 apply Ac
 apply k29
 refine Gy OG6_9 fun ρ30 l30 r30=>?_
 refine Aq ?_
 refine hret _ _ _ ?_
 refine ⟨(Arz (Arz l2 l6) l30),rfl,Aci (v:=ov6_9) rfl (Val.cast ?_ r30)⟩
 ·unfold shownL; split
  ·rename_i h0; rw [p6_1 h0]; rfl
  ·rw [show i = many by omega]
end Go.Proofs.YtoefdnbaklajeaaDoor

namespace Go.Proofs.YtoefdnbaklajeaaDoor
open Go
section
variable {mn:Bool} {X:Frame→List Frame→Ro→Own→Cy→Prop} {ρ:Ro} {σ:Own}
theorem c_FirstY {l:Lab} {rs:List Found} {vl vr v:Value} (hF:firstV l rs = v) (hg:Glob ρ) (rl:Val ρ vl l) (rr:Val ρ vr rs):CallsH (CX mn X) 40 #[vl,vr] ρ σ (fun w ρ' σ'=>ρ' = ρ∧σ' = σ∧w = v):=hF ▸ c_First hg rl rr
theorem c_realX {l:Lab} {vl:Value} {pick s:Nat} (h:realN l pick = s) (rl:Val ρ vl l) (ok:LabOk l) (hp:pick < 65536):CallsH (CX mn X) 47 #[vl,iV (pick:Int)] ρ σ (fun w ρ' σ'=>ρ' = ρ∧σ' = σ∧w = iV (s:Int)):=h ▸ c_real rl ok hp
theorem c_ShownX {l:Lab} {vl vk:Value} {set many:Nat} {picks:List UH} {rs:List Found} (h:shownL l set picks many = rs) (rl:Val ρ vl l) (rk:Val ρ vk picks) (hs:set < 65536) (hm:many ≤ 8):CallsH (CX mn X) 48 #[vl,iV (set:Int),vk,iV (many:Int)] ρ σ (fun w ρ' σ'=>Ro.le ρ ρ'∧σ' = σ∧Val ρ' w (rs:List Found)):=h ▸ c_Shown rl rk hs hm
end
set_option maxHeartbeats 4000000 in
set_option maxRecDepth 100000 in
theorem c_FakeTrue  {ρ:Ro} {σ:Own} {l:Lab} {picks:List UH} {many:Nat} {vl vk:Value} (hg:Glob ρ) (hnr:Js σ) (rl:Val ρ vl l) (rk:Val ρ vk picks) (hmany:many < 256):Agv (CX true (Acu Tryd.prog)) 10 6 [vl,vk,(.int .u8 ((many:Int)))] ρ σ (fun w ρ' σ'=>ρ' = ρ∧σ' = σ∧w = (.bool (true))):=by
 refine body_fn (n:=95) Tryd.func10 rfl rfl rfl rfl fun Q hret hnor=>?_
 refine w_q rfl rfl fun K1 k1=>?_
 refine Ae rfl (Eb (v:=vl) rfl fun k2=>?_)
 refine Bb (a:=l) rl fun ρ2 l2 r2=>?_
 replace rl:=Asa l2 rl
 replace rk:=Asa l2 rk
 replace hg:=Glob.mono l2 hg
 refine l_A (.bool (false)) rfl rfl ?_
 apply Ac
 apply k1
 refine Ai fun K3 k3=>?_
 refine w_q rfl rfl fun K4 k4=>?_
 refine Ak rfl (Ax Aaj rfl r2) fun v5 r5=>?_
 refine Ae rfl (Cm (vs:=[v5]) (c_Great r5) Tryd.func23 rfl rfl ⟨rfl,trivial⟩ fun w6 ρ6 σ6 hc6=>?_)
 obtain ⟨hr6,hs6,b6_,hw6⟩:=hc6
 replace hr6:=hr6.symm; replace hs6:=hs6.symm; subst hr6 hs6 hw6
 refine l_M (.bool (b6_)) rfl rfl ?_
 refine Cn (b6_) (fun b7=>?_) (fun b7=>?_)
 ·refine Ap (Bl rfl rfl rfl b7) ?_
  refine Ap (Bl rfl rfl rfl b7) ?_
  refine Ap (Bl rfl rfl rfl b7) ?_
  refine Aa rfl (Bt rfl b7 (v:=(.bool (true))) rfl) ?_
  apply Ac
  apply k4
  refine Co rfl rfl ?_
  refine w_q rfl rfl fun K8 k8=>?_
  refine Ae rfl (Bn (vs:=[]) (v:=(.bool (true))) (c_tells hg hnr) Tryd.func17 rfl rfl trivial ?_)
  refine l_A (.bool (true)) rfl rfl ?_
  apply Ac
  apply k8
  refine Aj (Arw l2) ?_
  refine Aq ?_
  refine hret _ _ _ ?_
  refine ⟨rfl,rfl,Eq.trans (b:=(.bool (true))) rfl ?_⟩
  rfl
 refine Ak (Ar rfl rfl rfl b7) (Ax Aaj rfl r2) fun v9 r9=>?_
 refine Ae (Ar rfl rfl rfl b7) (Bn (vs:=[v9]) (v:=(iV (Gj l))) (c_refCheckLab r9) Tryd.func39 rfl rfl ⟨rfl,trivial⟩ ?_)
 refine Aa (Ar rfl rfl rfl b7) (Dg (p:=Gj l) (q:=0) rfl rfl) ?_
 refine Aa rfl (Bm rfl b7 (v:=(.bool (Gj l != 0))) rfl) ?_
 apply Ac
 apply k4
 refine As (t:=Gj l != 0) rfl (fun b10=>?_) (fun b10=>?_)
 ·have q10:=Mb b10
  refine w_q rfl rfl fun K11 k11=>?_
  refine Ae rfl (Bn (vs:=[]) (v:=(.bool (true))) (c_tells hg hnr) Tryd.func17 rfl rfl trivial ?_)
  refine l_A (.bool (true)) rfl rfl ?_
  apply Ac
  apply k11
  refine Aj (Arw l2) ?_
  refine Aq ?_
  refine hret _ _ _ ?_
  refine ⟨rfl,rfl,Eq.trans (b:=(.bool (true))) rfl ?_⟩
  rfl
 have hl0:=Jh b10
 have ok:=Lm hl0
 have hk4:=ok.n4
 have hnt:=ok.ntests
 have q10:=Jh b10
 refine Al ?_
 apply k3
 refine Ai fun K12 k12=>?_
 refine Dc [0,1,2,3,4] (by kernel_rfl) rfl rfl ?_
 refine Cd (i:=0) [o1,o0,o0,o0,o0] rfl (by kernel_rfl) rfl Ary rfl (Ax Aaj rfl r2) fun v13 r13=>?_
 refine Bg (i:=1) [o1,o1,o0,o0,o0] rfl (by kernel_rfl) rfl Ary rfl (Ah (v:=vk) rfl) ?_
 have hch14:=chooseN_lt (l:=picks) (k:=40)
 refine Dj (i:=2) [o1,o1,o1,o0,o0] rfl (by kernel_rfl) rfl rfl (Bn (vs:=[vk,(iV (40))]) (v:=(iV ((((chooseN picks 40):Nat):Int)))) (c_choose rk) Tryd.func30 rfl rfl ⟨rfl,rfl,trivial⟩ ⟨Ary,?_⟩)
 obtain ⟨set,hset⟩:∃ s,realN l ((chooseN picks 40)) = s:=⟨_,rfl⟩
 have hs1:set ∈ Hk l:=hset ▸ real_in ok
 have hs2:=sets_lt ok hs1
 refine Dj (i:=3) [o1,o1,o1,o1,o0] rfl (by kernel_rfl) rfl rfl (Bn (vs:=[v13,(iV ((((chooseN picks 40):Nat):Int)))]) (v:=(iV ((set:Int)))) (c_realX hset r13 ok (by omega)) Tryd.func47 rfl rfl ⟨rfl,rfl,trivial⟩ ⟨Ary,?_⟩)
 refine Bg (i:=4) [o1,o1,o1,o1,o1] rfl (by kernel_rfl) rfl Ary rfl (Cp (v:=(iV ((set:Int)))) rfl) ?_
 refine Ec rfl ?_
 apply k12
 refine w_q rfl rfl fun K15 k15=>?_
 refine Ak rfl (Ax Aaj rfl r2) fun v16 r16=>?_
 refine l_M (iV ((set:Int))) rfl rfl ?_
 refine l_M vk rfl rfl ?_
 refine l_M (.int .u8 ((many:Int))) rfl rfl ?_
 refine Aa rfl (Abu (p:=(many:Int)) (z:=(many:Int)) Tryd.underlying5 Tryd.underlying3 rfl (Bo rfl (by omega) (by omega))) ?_
 refine Aa rfl (y_rem (p:=(many:Int)) (q:=9) rfl rfl (by omega) (z:=(((many % 9):Nat):Int)) rfl) ?_
 obtain ⟨rs,hrs⟩:∃ r,shownL l set picks ((many % 9)) = r:=⟨_,rfl⟩
 have hsh:=shown_law (l:=l) (set:=set) (picks:=picks) (many:=(many % 9)); rw [hrs] at hsh; obtain ⟨hsh1,hsh2,hsh3⟩:=hsh
 obtain ⟨hT1,hT2,hT3,hT4⟩:=true_law hl0 hsh1 (by omega) hs1 hsh3
 refine Ae rfl (Cm (vs:=[v16,(iV ((set:Int))),vk,(iV ((((many % 9):Nat):Int)))]) (c_ShownX hrs r16 rk (by omega) (by omega)) Tryd.func48 rfl rfl ⟨rfl,rfl,rfl,rfl,trivial⟩ fun v17 ρ17 σ17 hc17=>?_)
 obtain ⟨l17,s17,r17⟩:=hc17
 replace s17:=s17.symm; subst s17
 replace rk:=Asa l17 rk
 replace hg:=Glob.mono l17 hg
 replace r2:=Arv l17 r2
 replace r16:=Asa l17 r16
 refine l_A v17 rfl rfl ?_
 apply Ac
 apply k15
 refine w_q rfl rfl fun K18 k18=>?_
 refine Ak rfl (Ax Aaj rfl r2) fun v19 r19=>?_
 refine l_M v17 rfl rfl ?_
 refine Ae rfl (Cm (vs:=[v19,v17]) (Aec hg r19 r17) Tryd.func25 rfl rfl ⟨rfl,rfl,trivial⟩ fun w20 ρ20 σ20 hc20=>?_)
 obtain ⟨l20,s20,v20_0,w20e,r20_0⟩:=hc20
 replace s20:=s20.symm; subst s20 w20e
 replace hg:=Glob.mono l20 hg
 replace r2:=Arv l20 r2
 replace r17:=Asa l20 r17
 replace r19:=Asa l20 r19
 refine l_M (.tuple #[v20_0,(iV (Cw l rs))]) rfl rfl ?_
 refine Aa rfl (Bk (vs:=#[v20_0,(iV (Cw l rs))]) rfl (v:=v20_0) rfl) ?_
 refine Aa rfl (Bk (vs:=#[v20_0,(iV (Cw l rs))]) rfl (v:=(iV (Cw l rs))) rfl) ?_
 refine l_A v20_0 rfl rfl ?_
 refine l_A (iV (Cw l rs)) rfl rfl ?_
 apply Ac
 apply k18
 refine w_q rfl rfl fun K21 k21=>?_
 refine Ak rfl (Ax Aaj rfl r2) fun v22 r22=>?_
 refine l_M v17 rfl rfl ?_
 refine Ae rfl (Bn (vs:=[v22,v17]) (v:=(.tuple #[(iV ((-1))),(iV (0))])) (c_FirstY hT2 hg r22 r17) Tryd.func40 rfl rfl ⟨rfl,rfl,trivial⟩ ?_)
 refine l_M (.tuple #[(iV ((-1))),(iV (0))]) rfl rfl ?_
 refine Aa rfl (Bk (vs:=#[(iV ((-1))),(iV (0))]) rfl (v:=(iV ((-1)))) rfl) ?_
 refine Aa rfl (Bk (vs:=#[(iV ((-1))),(iV (0))]) rfl (v:=(iV (0))) rfl) ?_
 refine l_A (iV ((-1))) rfl rfl ?_
 refine l_A (iV (0)) rfl rfl ?_
 apply Ac
 apply k21
 refine Ai fun K23 k23=>?_
 refine w_q rfl rfl fun K24 k24=>?_
 refine l_M (iV (Cw l rs)) rfl rfl ?_
 refine Aa rfl (Dg (p:=Cw l rs) (q:=0) rfl rfl) ?_
 refine l_M (.bool (Cw l rs != 0)) rfl rfl ?_
 refine l_M (iV (0)) (Ar rfl rfl rfl (by rw [hT1]; rfl)) rfl ?_
 refine Aa (Ar rfl rfl rfl (by rw [hT1]; rfl)) (Dg (p:=0) (q:=0) rfl rfl) ?_
 refine Aa rfl (Bm rfl (by rw [hT1]; rfl) (v:=(.bool (false))) rfl) ?_
 refine l_M (.bool (false)) rfl rfl ?_
 refine l_M (iV ((-1))) (Ar rfl rfl rfl rfl) rfl ?_
 refine Aa (Ar rfl rfl rfl rfl) (Dg (p:=(-1)) (q:=(-1)) rfl rfl) ?_
 refine Aa rfl (Bm rfl rfl (v:=(.bool (false))) rfl) ?_
 refine l_M (.bool (false)) rfl rfl ?_
 refine l_M v20_0 (Ar rfl rfl rfl rfl) rfl ?_
 have g25:=Val.len r20_0
 refine Aa (Ar rfl rfl rfl rfl) (Ce (el:=53) Tryd.underlying46 rfl r20_0) ?_
 refine Ak (Ar rfl rfl rfl rfl) (Ay Lab.f_kinds Tryd.underlying40 rfl rfl Hu (by decide) rfl r2) fun v26 r26=>?_
 refine Ak (Ar rfl rfl rfl rfl) (Ax Hu rfl r26) fun v27 r27=>?_
 have g28:=Val.len r27
 refine Aa (Ar rfl rfl rfl rfl) (Ce (el:=9) Tryd.underlying22 rfl r27) ?_
 refine Aa (Ar rfl rfl rfl rfl) (Dg (p:=(((Sk l rs).length:Nat):Int)) (q:=((l.kinds.length:Nat):Int)) rfl rfl) ?_
 refine Aa rfl (Bm rfl rfl (v:=(.bool ((((Sk l rs).length:Nat):Int) != ((l.kinds.length:Nat):Int)))) rfl) ?_
 apply Ac
 apply k24
 refine Cg rfl (by rw [hT3]; simp) ?_
 refine Al ?_
 apply k23
 refine Ai fun K29 k29=>?_
 refine w_q rfl rfl fun K30 k30=>?_
 refine l_A (iV (0)) rfl rfl ?_
 apply Ac
 apply k30
 refine Ao ?_
 refine Cc (fun mm ee dd ρ' σ'=>∃ (k:Nat),((Sk l rs).length - k) = mm∧[] = dd∧ρ20 = ρ'∧σ = σ'∧ee 7 = (iV ((set:Int)))∧ee 9 = v20_0∧ee 13 = (iV ((k:Int)))∧(k ≤ (Sk l rs).length)∧True) (m:=_) ⟨0,rfl,rfl,rfl,rfl,rfl,rfl,rfl,(Nat.zero_le _),trivial⟩ ?_
 rintro m31 e31 _ _ _ ⟨k,rfl,rfl,rfl,rfl,h31_7,h31_9,h31_13,p31_0,_⟩
 refine Ai fun K32 k32=>?_
 refine w_q rfl rfl fun K33 k33=>?_
 refine Aa rfl (Ah (v:=(iV ((k:Int)))) h31_13) ?_
 refine Aa rfl (Ah (v:=v20_0) h31_9) ?_
 have g34:=Val.len r20_0
 refine Aa rfl (Ce (el:=53) Tryd.underlying46 rfl r20_0) ?_
 refine Aa rfl (Da (p:=(k:Int)) (q:=(((Sk l rs).length:Nat):Int)) rfl rfl) ?_
 apply Ac
 apply k33
 refine As (t:=decide ((k:Int) < (((Sk l rs).length:Nat):Int))) rfl (fun b35=>?_) (fun b35=>?_)
 ·have q35:=of_decide_eq_true b35
  refine Al ?_
  apply k32
  refine Ai fun K36 k36=>?_
  refine Ao ?_
  refine w_q rfl rfl fun K37 k37=>?_
  refine Aa rfl (Ah (v:=(iV ((set:Int)))) h31_7) ?_
  refine Aa rfl (Ah (v:=(iV ((k:Int)))) h31_13) ?_
  refine Aa rfl (Jq (p:=set) (q:=k) rfl rfl rfl (by omega)) ?_
  refine Aa rfl (Qi (p:=(set >>> k)) (q:=1) rfl rfl (Nat.lt_of_le_of_lt (Nat.shiftRight_le _ _) (by omega))) ?_
  refine Aa rfl (Ek (p:=((((set >>> k) &&& 1):Nat):Int)) (q:=1) rfl rfl) ?_
  refine l_A (.bool (((((set >>> k) &&& 1):Nat):Int) == 1)) rfl rfl ?_
  apply Ac
  apply k37
  refine w_q rfl rfl fun K38 k38=>?_
  refine Aa rfl (Ah (v:=v20_0) h31_9) ?_
  refine Aa rfl (Ah (v:=(iV ((k:Int)))) h31_13) ?_
  obtain ⟨a40,ha40⟩:=Ed (xs:=Sk l rs) (i:=k) (by omega)
  refine Ak rfl (Ci k Tryd.underlying46 Ov rfl r20_0 (q:=(k:Int)) rfl rfl ha40) fun v39 r39=>?_
  have ⟨g41a,g41b⟩:=At.rng r39
  refine Aa rfl (Bc Ov rfl r39) ?_
  refine Aa rfl (Ek (p:=a40) (q:=1) rfl rfl) ?_
  refine l_M (.bool (a40 == 1)) rfl rfl ?_
  refine Cn (a40 == 1) (fun b42=>?_) (fun b42=>?_)
  ·have q42:=Jo b42
   refine l_M (.bool (((((set >>> k) &&& 1):Nat):Int) == 1)) (Ar rfl rfl rfl b42) rfl ?_
   refine Aa (Ar rfl rfl rfl b42) (Ix (k:=((((set >>> k) &&& 1):Nat):Int) == 1) rfl) ?_
   refine Aa rfl (Bt rfl b42 (v:=(.bool (!(((((set >>> k) &&& 1):Nat):Int) == 1)))) rfl) ?_
   refine l_M (.bool (!(((((set >>> k) &&& 1):Nat):Int) == 1))) rfl rfl ?_
   refine Cn (!(((((set >>> k) &&& 1):Nat):Int) == 1)) (fun b43=>?_) (fun b43=>?_)
   ·have b44:=not_eq_t b43
    have q44:=La b44
    refine Ap (Bl rfl rfl rfl b43) ?_
    refine Ap (Bl rfl rfl rfl b43) ?_
    refine Ap (Bl rfl rfl rfl b43) ?_
    refine Ap (Bl rfl rfl rfl b43) ?_
    refine Ap (Bl rfl rfl rfl b43) ?_
    refine Ap (Bl rfl rfl rfl b43) ?_
    refine Ap (Jf rfl rfl rfl) ?_
    refine Ap (Bl rfl rfl rfl b43) ?_
    refine Aa rfl (Bt rfl b43 (v:=(.bool (true))) rfl) ?_
    apply Ac
    apply k38
    refine Co rfl rfl ?_
    refine w_q rfl rfl fun K45 k45=>?_
    refine l_A (.bool (false)) rfl rfl ?_
    apply Ac
    apply k45
    refine Aj (Arw (Arz (Arz l2 l17) l20)) ?_
    refine Aq ?_
    refine hret _ _ _ ?_
    refine ⟨rfl,rfl,Eq.trans (b:=(.bool (false))) rfl ?_⟩
    exfalso; have h4:=hT4 _ _ ha40
    first | (have h5:=h4.1 (by omega); rw [← bitA] at h5; have h6:=eq_of_beq h5; omega) | (have h5:=h4.2 (by omega); rw [← bitA] at h5; have h6:=La h5; omega)
   have b46:=not_eq_f b43
   have q46:=Jo b46
   refine Aa (Ar rfl rfl rfl b43) (Ah (v:=v20_0) h31_9) ?_
   refine Aa (Ar rfl rfl rfl b43) (Ah (v:=(iV ((k:Int)))) h31_13) ?_
   refine Ak (Ar rfl rfl rfl b43) (Ci k Tryd.underlying46 Ov rfl r20_0 (q:=(k:Int)) rfl rfl ha40) fun v47 r47=>?_
   have ⟨g48a,g48b⟩:=At.rng r47
   refine Aa (Ar rfl rfl rfl b43) (Bc Ov rfl r47) ?_
   refine Aa (Ar rfl rfl rfl b43) (Ek (p:=a40) (q:=2) rfl rfl) ?_
   refine l_M (.bool (a40 == 2)) (Ar rfl rfl rfl b43) rfl ?_
   refine Cn (a40 == 2) (fun b49=>?_) (fun b49=>?_)
   ·have q49:=Jo b49
    refine l_M (.bool (((((set >>> k) &&& 1):Nat):Int) == 1)) (Ar rfl rfl rfl b49) rfl ?_
    refine Aa (Ar rfl rfl rfl b43) (Bt rfl b49 (v:=(.bool (((((set >>> k) &&& 1):Nat):Int) == 1))) rfl) ?_
    refine Aa rfl (Bm rfl b43 (v:=(.bool (((((set >>> k) &&& 1):Nat):Int) == 1))) rfl) ?_
    apply Ac
    apply k38
    refine Co rfl b46 ?_
    refine w_q rfl rfl fun K50 k50=>?_
    refine l_A (.bool (false)) rfl rfl ?_
    apply Ac
    apply k50
    refine Aj (Arw (Arz (Arz l2 l17) l20)) ?_
    refine Aq ?_
    refine hret _ _ _ ?_
    refine ⟨rfl,rfl,Eq.trans (b:=(.bool (false))) rfl ?_⟩
    exfalso; have h4:=hT4 _ _ ha40
    first | (have h5:=h4.1 (by omega); rw [← bitA] at h5; have h6:=eq_of_beq h5; omega) | (have h5:=h4.2 (by omega); rw [← bitA] at h5; have h6:=La h5; omega)
   have q49:=La b49
   refine Ap (Bl rfl rfl rfl b49) ?_
   refine Aa (Ar rfl rfl rfl b43) (Bm rfl b49 (v:=(.bool (false))) rfl) ?_
   refine Aa rfl (Bm rfl b43 (v:=(.bool (false))) rfl) ?_
   apply Ac
   apply k38
   refine Cg rfl rfl ?_
   refine Al ?_
   apply k36
   refine Ag rfl rfl ?_
   refine Aa rfl (Ah (v:=(iV ((k:Int)))) h31_13) ?_
   refine Aa rfl (Br (p:=(k:Int)) (q:=1) rfl rfl (z:=(((k + 1):Nat):Int)) (Bo (by first | rfl | omega | (push_cast; rfl)) (by omega) (by omega))) ?_
   refine l_A (iV ((((k + 1):Nat):Int))) rfl rfl ?_
   apply Ac
   refine ⟨_,?_,((k + 1)),rfl,rfl,rfl,rfl,h31_7,h31_9,rfl,(by omega),trivial⟩
   omega
  have q42:=La b42
  refine Ap (Bl rfl rfl rfl b42) ?_
  refine Ap (Bl rfl rfl rfl b42) ?_
  refine Aa rfl (Bm rfl b42 (v:=(.bool (false))) rfl) ?_
  refine l_M (.bool (false)) rfl rfl ?_
  refine Aa (Ar rfl rfl rfl rfl) (Ah (v:=v20_0) h31_9) ?_
  refine Aa (Ar rfl rfl rfl rfl) (Ah (v:=(iV ((k:Int)))) h31_13) ?_
  refine Ak (Ar rfl rfl rfl rfl) (Ci k Tryd.underlying46 Ov rfl r20_0 (q:=(k:Int)) rfl rfl ha40) fun v51 r51=>?_
  have ⟨g52a,g52b⟩:=At.rng r51
  refine Aa (Ar rfl rfl rfl rfl) (Bc Ov rfl r51) ?_
  refine Aa (Ar rfl rfl rfl rfl) (Ek (p:=a40) (q:=2) rfl rfl) ?_
  refine l_M (.bool (a40 == 2)) (Ar rfl rfl rfl rfl) rfl ?_
  refine Cn (a40 == 2) (fun b53=>?_) (fun b53=>?_)
  ·have q53:=Jo b53
   refine l_M (.bool (((((set >>> k) &&& 1):Nat):Int) == 1)) (Ar rfl rfl rfl b53) rfl ?_
   refine Aa (Ar rfl rfl rfl rfl) (Bt rfl b53 (v:=(.bool (((((set >>> k) &&& 1):Nat):Int) == 1))) rfl) ?_
   refine Aa rfl (Bm rfl rfl (v:=(.bool (((((set >>> k) &&& 1):Nat):Int) == 1))) rfl) ?_
   apply Ac
   apply k38
   refine As (t:=((((set >>> k) &&& 1):Nat):Int) == 1) rfl (fun b54=>?_) (fun b54=>?_)
   ·have q54:=Jo b54
    refine w_q rfl rfl fun K55 k55=>?_
    refine l_A (.bool (false)) rfl rfl ?_
    apply Ac
    apply k55
    refine Aj (Arw (Arz (Arz l2 l17) l20)) ?_
    refine Aq ?_
    refine hret _ _ _ ?_
    refine ⟨rfl,rfl,Eq.trans (b:=(.bool (false))) rfl ?_⟩
    exfalso; have h4:=hT4 _ _ ha40
    first | (have h5:=h4.1 (by omega); rw [← bitA] at h5; have h6:=eq_of_beq h5; omega) | (have h5:=h4.2 (by omega); rw [← bitA] at h5; have h6:=La h5; omega)
   have q54:=La b54
   refine Al ?_
   apply k36
   refine Ag rfl rfl ?_
   refine Aa rfl (Ah (v:=(iV ((k:Int)))) h31_13) ?_
   refine Aa rfl (Br (p:=(k:Int)) (q:=1) rfl rfl (z:=(((k + 1):Nat):Int)) (Bo (by first | rfl | omega | (push_cast; rfl)) (by omega) (by omega))) ?_
   refine l_A (iV ((((k + 1):Nat):Int))) rfl rfl ?_
   apply Ac
   refine ⟨_,?_,((k + 1)),rfl,rfl,rfl,rfl,h31_7,h31_9,rfl,(by omega),trivial⟩
   omega
  have q53:=La b53
  refine Ap (Bl rfl rfl rfl b53) ?_
  refine Aa (Ar rfl rfl rfl rfl) (Bm rfl b53 (v:=(.bool (false))) rfl) ?_
  refine Aa rfl (Bm rfl rfl (v:=(.bool (false))) rfl) ?_
  apply Ac
  apply k38
  refine Cg rfl rfl ?_
  refine Al ?_
  apply k36
  refine Ag rfl rfl ?_
  refine Aa rfl (Ah (v:=(iV ((k:Int)))) h31_13) ?_
  refine Aa rfl (Br (p:=(k:Int)) (q:=1) rfl rfl (z:=(((k + 1):Nat):Int)) (Bo (by first | rfl | omega | (push_cast; rfl)) (by omega) (by omega))) ?_
  refine l_A (iV ((((k + 1):Nat):Int))) rfl rfl ?_
  apply Ac
  refine ⟨_,?_,((k + 1)),rfl,rfl,rfl,rfl,h31_7,h31_9,rfl,(by omega),trivial⟩
  omega
 have q35:=of_decide_eq_false b35
 refine Bx ?_
 apply k29
 refine w_q rfl rfl fun K56 k56=>?_
 refine Ae rfl (Bn (vs:=[]) (v:=(.bool (true))) (c_tells hg hnr) Tryd.func17 rfl rfl trivial ?_)
 refine l_A (.bool (true)) rfl rfl ?_
 apply Ac
 apply k56
 refine Aj (Arw (Arz (Arz l2 l17) l20)) ?_
 refine Aq ?_
 refine hret _ _ _ ?_
 refine ⟨rfl,rfl,Eq.trans (b:=(.bool (true))) rfl ?_⟩
 rfl
end Go.Proofs.YtoefdnbaklajeaaDoor

namespace Go.Proofs.YtoefdnbaklajeaaDoor
open Go Go.WideShapes Go.ChangeShapes Go.RowKit Go.Conc
set_option maxRecDepth 100000
theorem fakeTrue_lifted (os:Os) (started:os.Started) (H:Type) (enc:TypeId × Value→H):ReturnsInLeavingWide {} Tryd.checked os 10 .any (Aqs H enc Rows.fakeTrueSpec Tryd.f10) (Rows.fakeTrueSpec.post enc Tryd.prog Tryd.f10 false true false false):=by
  refine law_lift (r:=6) os started H enc Tryd.func10 rfl rfl (by kernel_rfl) (by decide) (fun ds hd=>?_)
    (ChangeSpec.witness_shaped (enc:=enc) (C:=Tryd.checked) (os:=os) (X:=fun w _=>laidMetH Tryd.prog laidL w) false (World.doorLaid Tryd.prog 2000 os) #[.agg #[.slice none 0 0,.int .i64 0,.slice none 0 0],.slice none 0 0,.int .u8 0] 8 rfl (World.shaped_of_RefB (by kernel_rfl) (by kernel_rfl)) (by kernel_rfl) (by kernel_rfl) (by kernel_rfl) (door_met os _)) ?_
  · match ds,hd with
    | [d1,d2,d3],_=>rfl
  · intro W args ds ps hv hA hw hg
    obtain ⟨hl1,hl2⟩:=Sa hA
    match args,hl1,ds,hl2,hA with
    | [v1,v2,v3],_,[d1,d2,d3],_,⟨p1,q1,h1,⟨p2,q2,h2,⟨p3,q3,h3,_,_⟩,_⟩,_⟩ =>
      obtain ⟨b1,k1⟩:=hv 0 40 v1 rfl rfl
      obtain ⟨b2,k2⟩:=hv 1 55 v2 rfl rfl
      obtain ⟨b3,k3⟩:=hv 2 5 v3 rfl rfl
      obtain ⟨x1,rx1⟩:=arg_struct dec40 rfl Tryd.underlying40 k1 h1 (weights_at hw (j:=0) rfl rfl)
      obtain ⟨x2,rx2⟩:=arg_slice (dec_list Tryd.underlying55 (by kernel_rfl) (Nat.le_of_ble_eq_true (by kernel_rfl)) (by decide) (dec_uh Tryd.underlying68 (by kernel_rfl))) Tryd.underlying55 k2 h2 (weights_at hw (j:=1) rfl rfl)
      obtain ⟨x3,rfl,lx3⟩:=arg_u8 Tryd.underlying5 k3 h3
      exact c_FakeTrue hg (fun c vs h=>by cases h) rx1 rx2 lx3
theorem fakeTrue_row:Rows.FakeTrueSaid :=
  OpenClaim.holds_of_wide_leaving 10 Tryd.f10 rfl rfl rfl rfl rfl rfl rfl ⟨rfl,rfl,rfl,rfl,rfl⟩ rfl rfl rfl rfl rfl (by kernel_rfl) Tryd.func10 (by kernel_rfl)
    (of_decide_eq_true (by kernel_rfl)) (by unfold Func.isWrapper; first | (rw [if_pos (by decide +kernel)]; kernel_rfl) | (rw [if_neg (by decide +kernel)]; exact ⟨rfl,rfl⟩))
    (fun os started H enc _=>fakeTrue_lifted os started H enc)
theorem fakeTrue_holds:Rows.FakeTrueCardSaid :=
  tied_goes .later [.funcs,.data] true (true,"5ad7a6b1106c4d9dff1ffa762e242e88c7338921ee0cf2e26581c2f653fcb6c6") false fakeTrue_row (by kernel_rfl) fakeTrue_row_tie rfl ⟨rfl,rfl⟩ (by kernel_rfl) rfl
    (fun f fn hf hfn=>by
      obtain rfl:f = 10:=Option.some.inj ((show Tryd.prog.funcNamed "crocus/crocuslaw08.FakeTrue" = some 10 by kernel_rfl).symm.trans hf) |>.symm
      obtain rfl:fn = Tryd.f10:=(Option.some.inj (Tryd.func10.symm.trans hfn)).symm
      exact ⟨by kernel_rfl,fun j t ht=>by
        have h2:t = 40∨t = 55∨t = 5:=by
          match j,ht with
          | 0,h=>exact .inl (Option.some.inj h).symm
          | 1,h=>exact .inr (.inl (Option.some.inj h).symm)
          | 2,h=>exact .inr (.inr ((Option.some.inj h).symm))
        rcases h2 with rfl | rfl | rfl
        · exact (show Tryd.prog.wantsStandIn 40 = false by kernel_rfl)
        · exact (show Tryd.prog.wantsStandIn 55 = false by kernel_rfl)
        · exact (show Tryd.prog.wantsStandIn 5 = false by kernel_rfl)⟩)
    (by kernel_rfl)
end Go.Proofs.YtoefdnbaklajeaaDoor
