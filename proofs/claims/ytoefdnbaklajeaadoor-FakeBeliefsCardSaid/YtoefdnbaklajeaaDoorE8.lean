/- Every call of crocuslaw08.FakeBeliefs returns true, on every schedule, and leaves its arguments as they were: conditions: the two listed package-level variables hold what the program's text lays. -/
import Derived.Test.YtoefdnbaklajeaaDoorB5
import Derived.Carry
import Derived.ChangeArms
import Derived.ChangeSame
import Derived.ChangeVars
import Derived.Conc.Holds
import Derived.Conc.LeavingOf
import Derived.FnData
import Derived.LaidHandle
import Derived.LaidLaws
import Derived.LaidMore
import Derived.Laws.BitsAllLaws
import Derived.Laws.BitsLemmas
import Derived.OpenShut
import Derived.RowKit
import Derived.SizedLaws
import Derived.Stop.Joined
import Derived.Test.YtoefdnbaklajeaaDoorRows
import Derived.WideShapes
set_option linter.unusedVariables false
set_option linter.unusedSimpArgs false
namespace Go.Proofs.YtoefdnbaklajeaaDoor
open Go
section
variable {C:Ctx} {b:FB} {n:Nat} {l₀ rest:List Oper} {Q:Env→List Deferred→Ro→Own→Prop} {e:Env} {ds:List Deferred} {ρ:Ro} {σ:Own}
end
section
variable {P:Program} {ρ:Ro} {e:Env} {ty t t':TypeId} {x y:Operand} {v:Value}
theorem eqGuard_str {op:BinOp} {p q:ByteArray}:eqGuard op t x y (.string p) (.string q) = pure ():=by
  cases op <;> rfl
section
variable {k:IntKind} {p q:Int}
end
end
section
variable {C:Ctx} {b:FB} {n:Nat} {l₀:List Oper} {Q:Env→List Deferred→Ro→Own→Prop} {e:Env} {ds:List Deferred} {ρ ρ₀:Ro} {σ:Own} {pz:List Nat} {fuel:Nat} {listed:Array Bool}
section
variable {d i:Nat} {op:Op} {ty:TypeId} {pos:String} {af:Array Edge} {g:Option (Nat × Bool)} {v:Value} {li:List Bool}
end
end
end Go.Proofs.YtoefdnbaklajeaaDoor

namespace Go.Proofs.YtoefdnbaklajeaaDoor
open Go
section
variable {α:Type} [Dat α] {ρ ρ':Ro}
end
section
variable {P:Program} {ρ:Ro} {σ:Own} {t:TypeId}
end
section
variable {C:Ctx} {b:FB} {n:Nat} {l₀ rest:List Oper} {Q:Env→List Deferred→Ro→Own→Prop} {e:Env} {ds:List Deferred} {ρ:Ro} {σ:Own}
variable {d:Nat} {ty:TypeId} {pos:String} {af:Array Edge} {g:Option (Nat × Bool)} {x y:Operand} {v p:Value} {t:TypeId}
/-- A slice's part. -/
theorem slice_hi {α:Type} [Dat α] {xs:List α} {a:Option Addr} {len cap h:Nat} (hv:Val ρ (.slice a len cap) xs) (hh:h ≤ len):Val ρ (.slice (if cap = 0 then a else a.map (·.add (0 * Dat.k α))) (h - 0) (cap - 0)) (xs.take h):=by
  obtain ⟨a',len',cap',h1,h2,h3,h4,h5⟩:=Cs.1 hv
  cases h1
  refine Cs.2 ⟨a,h,cap,?_,by simp; omega,by omega,by omega,fun i x hx=>?_⟩
  · congr 1
    split
    · rfl
    · cases a with
      | none=>rfl
      | some ad=>simp [Addr.add]
  · rw [List.getElem?_take] at hx
    split at hx
    · exact h5 i x hx
    · cases hx
theorem y_slice_hi {P:Program} {α:Type} [Dat α] {xs:List α} {el:TypeId} {k:IntKind} {q:Int} (h:Nat) (hT:P.underlying t = some (.slice el)) (hE:GoTy P el α) (hx:Af e x = v) (hv:Val ρ v xs) (hy:Af e y = .int k q) (hq:q = (h:Int)) (hh:h ≤ xs.length) :
    ∃ w,Val ρ w (xs.take h)∧Yld P ρ e (.slice t x none (some y) none) ty w:=by
  obtain ⟨a,len,cap,h1,h2,h3,h4,h5⟩:=Cs.1 hv
  subst h1
  refine ⟨_,slice_hi hv (by omega),Mf (s:=Instr.sliceAt t (Af e x) none (some (Af e y)) none) (fun _ _ _ _=>rfl) fun ρ' σ _=>?_⟩
  rw [hx,hy,hq]
  show wpS P ρ' ((underlying t).bind _) σ _
  rw [Ad]
  refine Az hT ?_
  show wpS P ρ' ((underlying t).bind _) σ _
  rw [Ad]
  refine Az hT ?_
  simp only []
  show wpS P ρ' ((Instr.sliceBounds true len cap none (some (.int k h)) none).bind _) σ _
  have hb:Instr.sliceBounds true len cap none (some (.int k (h:Int))) none = pure (0,h,cap):=by
    show (do let m ← pure cap; let hh ← Instr.sliceBound (.int k (h:Int)) m _; let l ← pure 0; pure (l,hh,m):Sem _) = _
    have:Instr.sliceBound (.int k (h:Int)) cap .sliceAcap = pure h:=by
      show (if 0 ≤ (h:Int)∧(h:Int) ≤ cap then pure (h:Int).toNat else _) = _
      rw [if_pos (by omega)]; simp
    show (Instr.sliceBound (.int k (h:Int)) cap .sliceAcap).bind _ = _
    rw [this]; rfl
  rw [hb]
  show wpS P ρ' ((sizeOf el).bind _) σ _
  rw [Ad]
  exact Dw hE.info ⟨rfl,rfl⟩
end
end Go.Proofs.YtoefdnbaklajeaaDoor

namespace Go.Proofs.YtoefdnbaklajeaaDoor
open Go
section
variable {C:Ctx} {b:FB} {n:Nat} {l₀ rest:List Oper} {Q:Env→List Deferred→Ro→Own→Prop} {Q':Hv} {e:Env} {ds:List Deferred} {ρ:Ro} {σ:Own}
variable {d:Nat} {ty:TypeId} {pos:String} {af:Array Edge} {g:Option (Nat × Bool)} {x y:Operand} {v p:Value} {t t':TypeId}
section
variable {P:Program}
theorem y_rem {k:IntKind} {p q z:Int} (hx:Af e x = .int k p) (hy:Af e y = .int k q) (h0:q ≠ 0) (hz:p.tmod q = z):Yld P ρ e (.binOp .rem t x y t') ty (.int k z) :=
  Ju hx hy Dh (by subst hz; simp only [binOp]; rw [if_neg (by simp)]; unfold Op.intDiv; rw [if_neg h0])
theorem y_quo {k:IntKind} {p q z:Int} (hx:Af e x = .int k p) (hy:Af e y = .int k q) (h0:q ≠ 0) (hz:k.wrap (p.tdiv q) = z):Yld P ρ e (.binOp .quo t x y t') ty (.int k z) :=
  Ju hx hy Dh (by subst hz; simp only [binOp]; rw [if_neg (by simp)]; unfold Op.intDiv; rw [if_neg h0])
end
section
variable {P:Program}
theorem y_eqs {p q:ByteArray} (hx:Af e x = .string p) (hy:Af e y = .string q):Yld P ρ e (.binOp .eql t x y t') ty (.bool (p.toList == q.toList)):=Ju hx hy eqGuard_str (by simp only [binOp]; rfl)
end
end
end Go.Proofs.YtoefdnbaklajeaaDoor

namespace Go.Proofs.YtoefdnbaklajeaaDoor
open Go Go.WideShapes
theorem reach_lt {n:Nat} (h:n ≤ reachBytes):n < 2 ^ 60:=by unfold reachBytes at h; omega
theorem dec_int {t:TypeId} (ht:Tryd.prog.underlying t = some (.int .i64)) (hc:Tryd.prog.cellsOf t = 1):Apq Int t :=
  ⟨hc,fun H enc W fuel cs x h _=>by
    obtain ⟨n,h1,_,h3⟩:=DataW.trod_int ht h
    refine ⟨n,h1,?_⟩
    simp [Lit.wf,IntKind.min,IntKind.max,IntKind.signed,IntKind.bits] at h3
    exact ⟨by omega,by omega⟩⟩
theorem dec_bool {t:TypeId} (ht:Tryd.prog.underlying t = some .bool) (hc:Tryd.prog.cellsOf t = 1):Apq Bool t :=
  ⟨hc,fun H enc W fuel cs x h _=>by
    obtain ⟨b,h1,_⟩:=DataW.trod_bool ht h
    exact ⟨b,h1⟩⟩
theorem dec_str {t:TypeId} (ht:Tryd.prog.underlying t = some .string) (hc:Tryd.prog.cellsOf t = 1):Apq ByteArray t :=
  ⟨hc,fun H enc W fuel cs x h hw=>by
    obtain ⟨s,h1,h2,_⟩:=DataW.trod_string ht h
    refine ⟨s,h1,reach_lt ?_⟩
    have:=hw s.data.toList.length (by rw [h2]; simp [DataW.weights])
    simpa using this⟩
theorem list_of {α:Type} {P:Nat→α→Prop}:∀ n,(∀ i,i < n→∃ a,P i a)→∃ xs:List α,xs.length = n∧∀ i x,xs[i]? = some x→P i x
  | 0,_=>⟨[],rfl,fun i x h=>by cases h⟩
  | n + 1,h=>by
    obtain ⟨xs,h1,h2⟩:=list_of n fun i hi=>h i (by omega)
    obtain ⟨a,ha⟩:=h n (by omega)
    refine ⟨xs ++ [a],by simp [h1],fun i x hx=>?_⟩
    rcases Nat.lt_or_ge i n with hlt | hge
    · rw [List.getElem?_append_left (by omega)] at hx; exact h2 i x hx
    · have hi:i = n:=by
        have:=(List.getElem?_eq_some_iff.1 hx).1
        simp only [List.length_append,List.length_singleton] at this; omega
      subst hi
      rw [List.getElem?_append_right (by omega),h1,Nat.sub_self] at hx
      cases hx; exact ha
theorem add_0 {a:Addr}:a.add 0 = a:=by simp [Addr.add]
theorem add_none {b off i:Nat}:(⟨b,off,none⟩:Addr).add i = ⟨b,off + i,none⟩:=by
  unfold Addr.add; split
  · rename_i h; subst h; rfl
  · rfl
theorem row_cells {W:World} {a:Addr} {k:Nat} {cs:List Value} (hk:1 ≤ k) (h:W.cells? 0 a k = some cs):∃ b off c t fz rest,a = ⟨b,off,none⟩∧W.heap[b]? = some (.cells c t fz)∧c.toList.drop off = cs ++ rest∧cs.length = k:=by
  unfold World.cells? at h
  rw [if_pos (Nat.zero_le _)] at h
  have hl:=mapM_some_length h
  rw [List.length_range] at hl
  have hg:∀ j,j < k→W.cell? (a.add j) = cs[j]?:=fun j hj=>mapM_some_get h j j (by rw [List.getElem?_range hj])
  obtain ⟨b,off,spot⟩:=a
  have h0:=hg 0 hk
  rw [add_0] at h0
  obtain ⟨v,hv⟩:∃ v,cs[0]? = some v:=⟨_,List.getElem?_eq_getElem (by omega)⟩
  rw [hv] at h0
  unfold World.cell? at h0
  simp only at h0
  cases hb:W.heap[b]? with
  | none=>rw [hb] at h0; cases h0
  | some o =>
    cases o with
    | cells c t fz =>
      rw [hb] at h0
      simp only at h0
      cases spot with
      | some s=>simp at h0
      | none =>
        refine ⟨b,off,c,t,fz,(c.toList.drop off).drop k,rfl,hb,?_,hl⟩
        have e1:(c.toList.drop off).take k = cs:=by
          apply List.ext_getElem?
          intro j
          rw [List.getElem?_take]
          by_cases hj:j < k
          · rw [if_pos hj,← hg j hj,List.getElem?_drop,add_none]
            unfold World.cell?
            simp only [hb]
            simp
          · rw [if_neg hj,List.getElem?_eq_none (by omega)]
        rw [← e1,List.take_append_drop]
    | _=>rw [hb] at h0; cases h0
theorem weightsAll_mem {H:Type} {P:Program} {e:TypeId}:∀ {ds:List (DataW H)} {d:DataW H} {n:Nat},d ∈ ds→n ∈ d.weights P e→n ∈ DataW.weightsAll P e ds
  | [],_,_,h,_=>by cases h
  | d' :: ds,d,n,h,hn=>by
    rw [DataW.weightsAll,List.mem_append]
    rcases List.mem_cons.1 h with rfl | h
    · exact .inl hn
    · exact .inr (weightsAll_mem h hn)
theorem dec_list {α:Type} [Dat α] {t e:TypeId} (ht:Tryd.prog.underlying t = some (.slice e)) (hc:Tryd.prog.cellsOf t = 1) (hb:1 ≤ Tryd.prog.bytesOf e) (hk:1 ≤ Dat.k α) (he:Apq α e):Apq (List α) t :=
  ⟨hc,fun H enc W fuel cs x h hw=>by
    rcases DataW.trod_slice ht h with ⟨h1,_⟩ | ⟨a,len,cap,Av,rest,n,_,h2,h3,_,h5,_,h6,h7,_,_⟩
    · exact ⟨[],_,h1,none,0,0,rfl,rfl,by omega,Nat.le_refl _,fun i x hx=>by cases hx⟩
    · rw [h3] at hw
      simp only [DataW.weights,ht] at hw
      have hlen:len < 2 ^ 60:=by
        have:=hw _ (List.mem_cons_self ..)
        simp only [List.length_map] at this
        refine reach_lt (Nat.le_trans ?_ this)
        rw [h6]
        exact Nat.le_trans (Nat.le_trans (Nat.le_add_right _ _) (Nat.le_of_eq (Nat.mul_one _).symm)) (Nat.mul_le_mul_left _ hb)
      obtain ⟨xs,hx1,hx2⟩:=list_of (P:=fun i (y:α)=>∃ cs,W.cells? 0 (a.add (i * Tryd.prog.cellsOf e)) (Tryd.prog.cellsOf e) = some cs∧Dat.rep (roW W) cs y) len fun i hi=>by
        have h8:=h7 i hi
        obtain ⟨y,hy⟩:∃ y,Av[i]? = some y:=⟨_,List.getElem?_eq_getElem (by omega)⟩
        rw [hy,Option.bind_eq_some_iff] at h8
        obtain ⟨ci,hc1,hc2⟩:=h8
        obtain ⟨z,hz⟩:=he.2 H enc W n ci y hc2 fun m hm=>hw m (List.mem_cons_of_mem _ (List.mem_append_left _ (weightsAll_mem (List.mem_map_of_mem (List.mem_of_getElem? hy)) hm)))
        exact ⟨z,ci,hc1,hz⟩
      refine ⟨xs,_,h2,some a,len,cap,rfl,hx1,hlen,h5,fun i y hy=>?_⟩
      obtain ⟨b',off',rfl⟩:∃ b' off',a = ⟨b',off',none⟩:=by
        have hi:=(List.getElem?_eq_some_iff.1 hy).1
        obtain ⟨y0,hy0⟩:∃ y0,xs[0]? = some y0:=⟨_,List.getElem?_eq_getElem (by omega)⟩
        obtain ⟨ci,hc1,_⟩:=hx2 0 y0 hy0
        rw [he.1,Nat.zero_mul,add_0] at hc1
        obtain ⟨b,off,_,_,_,_,h8,_⟩:=row_cells hk hc1
        exact ⟨b,off,h8⟩
      obtain ⟨ci,hc1,hc2⟩:=hx2 i y hy
      rw [he.1,add_none] at hc1
      obtain ⟨b,off,c,t',fz,rs,h8,h9,h10,_⟩:=row_cells hk hc1
      simp only [Addr.mk.injEq,and_true] at h8
      obtain ⟨rfl,rfl⟩:=h8
      exact ⟨b',off',rfl,b',_,c,t',fz,ci,rs,rfl,Vs h9,hc2,h10⟩⟩
theorem cut_at (cs:List Value) (a k:Nat):cs.drop a = (cs.drop a).take k ++ cs.drop (a + k):=by rw [← List.drop_drop,List.take_append_drop]
theorem field_at {H:Type} {enc:TypeId × Value→H} {W:World} {n:Nat} {cs:List Value} {xs:List (DataW H × List MemPlace)} {fs:Array Field} {t:TypeId} (ht:Tryd.prog.underlying t = some (.struct fs)) (hl:xs.length = fs.size) (h:∀ (i:Nat) (f:Field),fs[i]? = some f→DataW.trod enc Tryd.prog W 0 (fun _=>true) true n f.type ((cs.drop f.offset).take (Tryd.prog.cellsOf f.type)) = xs[i]?)
    (hw:∀ m ∈ (DataW.agg (xs.map (·.1)):DataW H).weights Tryd.prog t,m ≤ reachBytes) {α:Type} [Dat α] {i ft off:Nat} {f:Field} (hf:fs[i]? = some f) (h1:f.type = ft) (h2:f.offset = off) (hd:Apq α ft):∃ a:α,Dat.rep (roW W) ((cs.drop off).take (Dat.k α)) a:=by
  subst h1 h2
  have hi:=(Array.getElem?_eq_some_iff.1 hf).1
  obtain ⟨y,hy⟩:∃ y,xs[i]? = some y:=⟨_,List.getElem?_eq_getElem (by omega)⟩
  have h3:=h i f hf
  rw [hy,hd.1] at h3
  refine hd.2 H enc W n _ y h3 fun m hm=>hw m ?_
  simp only [DataW.weights,ht]
  exact DataW.weights_mem_each (j:=i) (t:=f.type) (d:=y.1) (by simp [Array.getElem?_toList,hf]) (by simp [hy]) m hm
theorem dec108:Apq FTest 108:=⟨by kernel_rfl,fun H enc W fuel cs x h hw=>by
  obtain ⟨xs,n,_,rfl,hcl,hl,hf⟩:=DataW.trod_struct Tryd.underlying108 h
  rw [show Tryd.prog.cellsOf 108 = 3 from by kernel_rfl] at hcl
  obtain ⟨a0,r0⟩:=field_at (i:=0) Tryd.underlying108 hl hf hw rfl rfl (show _ = 0 from rfl) (dec_str Tryd.underlying9 (by kernel_rfl))
  obtain ⟨a1,r1⟩:=field_at (i:=1) Tryd.underlying108 hl hf hw rfl rfl (show _ = 1 from rfl) (dec_list Tryd.underlying46 (by kernel_rfl) (Nat.le_of_ble_eq_true (by kernel_rfl)) (by decide) (dec_int Tryd.underlying53 (by kernel_rfl)))
  obtain ⟨a2,r2⟩:=field_at (i:=2) Tryd.underlying108 hl hf hw rfl rfl (show _ = 2 from rfl) (dec_bool Tryd.underlying4 (by kernel_rfl))
  refine ⟨⟨a0,a1,a2⟩,?_⟩
  have e0:cs = cs.drop 0:=rfl
  rw [e0]
  exact ⟨(cs.drop 0).take 1,cs.drop 1,(cut_at cs 0 1).trans (by rfl),r0,⟨(cs.drop 1).take 1,cs.drop 2,(cut_at cs 1 1).trans (by rfl),r1,(show Dat.rep (roW W) (cs.drop 2) a2 from by (have:=r2; rw [List.take_of_length_le (by rw [List.length_drop,hcl]; decide)] at this; exact this))⟩⟩⟩
theorem dec40:Apq Lab 40:=⟨by kernel_rfl,fun H enc W fuel cs x h hw=>by
  obtain ⟨xs,n,_,rfl,hcl,hl,hf⟩:=DataW.trod_struct Tryd.underlying40 h
  rw [show Tryd.prog.cellsOf 40 = 3 from by kernel_rfl] at hcl
  obtain ⟨a0,r0⟩:=field_at (i:=0) Tryd.underlying40 hl hf hw rfl rfl (show _ = 0 from rfl) (dec_list Tryd.underlying22 (by kernel_rfl) (Nat.le_of_ble_eq_true (by kernel_rfl)) (by decide) (dec_str Tryd.underlying9 (by kernel_rfl)))
  obtain ⟨a1,r1⟩:=field_at (i:=1) Tryd.underlying40 hl hf hw rfl rfl (show _ = 1 from rfl) (dec_int Tryd.underlying3 (by kernel_rfl))
  obtain ⟨a2,r2⟩:=field_at (i:=2) Tryd.underlying40 hl hf hw rfl rfl (show _ = 2 from rfl) (dec_list Tryd.underlying38 (by kernel_rfl) (Nat.le_of_ble_eq_true (by kernel_rfl)) (by decide) dec108)
  refine ⟨⟨a0,a1,a2⟩,?_⟩
  have e0:cs = cs.drop 0:=rfl
  rw [e0]
  exact ⟨(cs.drop 0).take 1,cs.drop 1,(cut_at cs 0 1).trans (by rfl),r0,⟨(cs.drop 1).take 1,cs.drop 2,(cut_at cs 1 1).trans (by rfl),r1,(show Dat.rep (roW W) (cs.drop 2) a2 from by (have:=r2; rw [List.take_of_length_le (by rw [List.length_drop,hcl]; decide)] at this; exact this))⟩⟩⟩
theorem dec43:Apq Found 43:=⟨by kernel_rfl,fun H enc W fuel cs x h hw=>by
  obtain ⟨xs,n,_,rfl,hcl,hl,hf⟩:=DataW.trod_struct Tryd.underlying43 h
  rw [show Tryd.prog.cellsOf 43 = 2 from by kernel_rfl] at hcl
  obtain ⟨a0,r0⟩:=field_at (i:=0) Tryd.underlying43 hl hf hw rfl rfl (show _ = 0 from rfl) (dec_int Tryd.underlying3 (by kernel_rfl))
  obtain ⟨a1,r1⟩:=field_at (i:=1) Tryd.underlying43 hl hf hw rfl rfl (show _ = 1 from rfl) (dec_bool Tryd.underlying4 (by kernel_rfl))
  refine ⟨⟨a0,a1⟩,?_⟩
  have e0:cs = cs.drop 0:=rfl
  rw [e0]
  exact ⟨(cs.drop 0).take 1,cs.drop 1,(cut_at cs 0 1).trans (by rfl),r0,(show Dat.rep (roW W) (cs.drop 1) a1 from by (have:=r1; rw [List.take_of_length_le (by rw [List.length_drop,hcl]; decide)] at this; exact this))⟩⟩
end Go.Proofs.YtoefdnbaklajeaaDoor

namespace Go.Proofs.YtoefdnbaklajeaaDoor
open Go Go.WideShapes Go.ChangeShapes Go.RowKit Go.Conc
section
variable {H:Type} {enc:TypeId × Value→H} {W:World} {r:Reach} {base t:Nat} {v:Value} {d:DataW H} {p:List MemPlace}
end
theorem weights_at {H:Type} {P:Program} {ts:List TypeId} {ds:List (DataW H)} (h:(DataW.weightsEach P ts ds).all (· ≤ reachBytes) = true) {j:Nat} {t:TypeId} {d:DataW H} (ht:ts[j]? = some t) (hd:ds[j]? = some d):∀ n ∈ d.weights P t,n ≤ reachBytes:=fun n hn=>by
  have:=List.all_eq_true.1 h _ (DataW.weights_mem_each ht hd n hn)
  simpa using this
end Go.Proofs.YtoefdnbaklajeaaDoor

namespace Go.Proofs.YtoefdnbaklajeaaDoor
open Go
theorem okAll_t {s:ByteArray}:(List.range s.size).all (Alz s) = true↔∀ j,j < s.size→Alz s j = true:=by simp
theorem okAll_f {s:ByteArray} {j:Nat} (h:j < s.size) (h0:Alz s j = false):(List.range s.size).all (Alz s) = false:=by
  cases hh:(List.range s.size).all (Alz s) with
  | false=>rfl
  | true=>rw [okAll_t.1 hh j h] at h0; cases h0
end Go.Proofs.YtoefdnbaklajeaaDoor

namespace Go.Proofs.YtoefdnbaklajeaaDoor
open Go
set_option maxRecDepth 100000 in
theorem c_In {mn:Bool} {X:Frame→List Frame→Ro→Own→Cy→Prop} {ρ:Ro} {σ:Own} {n low high:Int} :CallsH (CX mn X) 79 #[(iV (n)),(iV (low)),(iV (high))] ρ σ (fun w ρ' σ'=>ρ' = ρ∧σ' = σ∧w = (.bool (inR n low high))):=by
 refine Bh (n:=15) (args:=[(iV (n)),(iV (low)),(iV (high))]) [6] Tryd.func79 rfl rfl rfl rfl fun Q hret hnor=>?_
 refine w_q rfl rfl fun K1 k1=>?_
 refine l_A (.bool (false)) rfl rfl ?_
 apply Ac
 apply k1
 refine w_q rfl rfl fun K2 k2=>?_
 refine l_M (iV (low)) rfl rfl ?_
 refine l_M (iV (n)) rfl rfl ?_
 refine Aa rfl (Tx (p:=low) (q:=n) rfl rfl) ?_
 refine l_M (.bool (decide (low ≤ n))) rfl rfl ?_
 refine Cn (decide (low ≤ n)) (fun b3=>?_) (fun b3=>?_)
 ·have q3:=of_decide_eq_true b3
  refine l_M (iV (n)) (Ar rfl rfl rfl b3) rfl ?_
  refine l_M (iV (high)) (Ar rfl rfl rfl b3) rfl ?_
  refine Aa (Ar rfl rfl rfl b3) (Tx (p:=n) (q:=high) rfl rfl) ?_
  refine Aa rfl (Bt rfl b3 (v:=(.bool (decide (n ≤ high)))) rfl) ?_
  refine l_A (.bool (decide (n ≤ high))) rfl rfl ?_
  apply Ac
  apply k2
  refine Aq ?_
  refine hret _ _ _ ?_
  refine ⟨rfl,rfl,Eq.trans (b:=(.bool (decide (n ≤ high)))) rfl ?_⟩
  simp only [inR,b3,Bool.true_and,Bool.false_and,Bool.and_true,Bool.and_false,Bool.true_or,Bool.false_or,Bool.or_true,Bool.or_false,Bool.not_true,Bool.not_false]
 have q3:=of_decide_eq_false b3
 refine Ap (Bl rfl rfl rfl b3) ?_
 refine Ap (Bl rfl rfl rfl b3) ?_
 refine Ap (Bl rfl rfl rfl b3) ?_
 refine Aa rfl (Bm rfl b3 (v:=(.bool (false))) rfl) ?_
 refine l_A (.bool (false)) rfl rfl ?_
 apply Ac
 apply k2
 refine Aq ?_
 refine hret _ _ _ ?_
 refine ⟨rfl,rfl,Eq.trans (b:=(.bool (false))) rfl ?_⟩
 simp only [inR,b3,Bool.true_and,Bool.false_and,Bool.and_true,Bool.and_false,Bool.true_or,Bool.false_or,Bool.or_true,Bool.or_false,Bool.not_true,Bool.not_false]
set_option maxRecDepth 100000 in
theorem c_Name {mn:Bool} {X:Frame→List Frame→Ro→Own→Cy→Prop} {ρ:Ro} {σ:Own} {s:ByteArray} :CallsH (CX mn X) 78 #[(.string (s))] ρ σ (fun w ρ' σ'=>ρ' = ρ∧σ' = σ∧w = (.bool (Hi s))):=by
 refine Bh (n:=46) (args:=[(.string (s))]) [2] Tryd.func78 rfl rfl rfl rfl fun Q hret hnor=>?_
 refine w_q rfl rfl fun K1 k1=>?_
 refine l_A (.bool (false)) rfl rfl ?_
 apply Ac
 apply k1
 refine Ai fun K2 k2=>?_
 refine w_q rfl rfl fun K3 k3=>?_
 refine l_M (.string (s)) rfl rfl ?_
 refine Aa rfl (Afb Tryd.underlying9 (s:=s) rfl) ?_
 refine Ae rfl (Bn (vs:=[(iV (((s.size:Nat):Int))),(iV (1)),(iV (14))]) (v:=(.bool (inR (((s.size:Nat):Int)) 1 14))) (c_In) Tryd.func79 rfl rfl ⟨rfl,rfl,rfl,trivial⟩ ?_)
 refine Aa rfl (Ix (k:=inR (((s.size:Nat):Int)) 1 14) rfl) ?_
 refine l_M (.bool (!(inR (((s.size:Nat):Int)) 1 14))) rfl rfl ?_
 refine Cn (!(inR (((s.size:Nat):Int)) 1 14)) (fun b4=>?_) (fun b4=>?_)
 ·have b5:=not_eq_t b4
  have q5:=Ui.1 b5
  refine Ap (Bl rfl rfl rfl b4) ?_
  refine Ap (Bl rfl rfl rfl b4) ?_
  refine Ap (Bl rfl rfl rfl b4) ?_
  refine Aa rfl (Bt rfl b4 (v:=(.bool (true))) rfl) ?_
  refine l_M (.bool (true)) rfl rfl ?_
  refine Ap (Bl rfl rfl rfl rfl) ?_
  refine Ap (Bl rfl rfl rfl rfl) ?_
  refine Ap (Bl rfl rfl rfl rfl) ?_
  refine Aa rfl (Bt rfl rfl (v:=(.bool (true))) rfl) ?_
  apply Ac
  apply k3
  refine Co rfl rfl ?_
  refine w_q rfl rfl fun K6 k6=>?_
  refine l_A (.bool (false)) rfl rfl ?_
  apply Ac
  apply k6
  refine Aq ?_
  refine hret _ _ _ ?_
  refine ⟨rfl,rfl,Eq.trans (b:=(.bool (false))) rfl ?_⟩
  simp only [Hi,Pu,b4,b5,Bool.true_and,Bool.false_and,Bool.and_true,Bool.and_false,Bool.true_or,Bool.false_or,Bool.or_true,Bool.or_false,Bool.not_true,Bool.not_false]
 have b7:=not_eq_f b4
 have q7:=Ge.1 b7
 refine l_M (.string (s)) (Ar rfl rfl rfl b4) rfl ?_
 obtain ⟨c8,hc8⟩:=Alh (s:=s) (i:=0) (by omega)
 refine Aa (Ar rfl rfl rfl b4) (Aaw 0 c8 Tryd.underlying9 rfl (q:=0) rfl rfl hc8) ?_
 refine Aa (Ar rfl rfl rfl b4) (Da (p:=((c8.toNat:Nat):Int)) (q:=97) rfl rfl) ?_
 refine Aa rfl (Bm rfl b4 (v:=(.bool (decide (((c8.toNat:Nat):Int) < 97)))) rfl) ?_
 refine l_M (.bool (decide (((c8.toNat:Nat):Int) < 97))) rfl rfl ?_
 refine Cn (decide (((c8.toNat:Nat):Int) < 97)) (fun b9=>?_) (fun b9=>?_)
 ·have q9:=of_decide_eq_true b9
  refine Ap (Bl rfl rfl rfl b9) ?_
  refine Ap (Bl rfl rfl rfl b9) ?_
  refine Ap (Bl rfl rfl rfl b9) ?_
  refine Aa rfl (Bt rfl b9 (v:=(.bool (true))) rfl) ?_
  apply Ac
  apply k3
  refine Co rfl rfl ?_
  refine w_q rfl rfl fun K10 k10=>?_
  refine l_A (.bool (false)) rfl rfl ?_
  apply Ac
  apply k10
  refine Aq ?_
  refine hret _ _ _ ?_
  refine ⟨rfl,rfl,Eq.trans (b:=(.bool (false))) rfl ?_⟩
  simp only [Hi,Pu,hc8,b4,b7,b9,Bool.true_and,Bool.false_and,Bool.and_true,Bool.and_false,Bool.true_or,Bool.false_or,Bool.or_true,Bool.or_false,Bool.not_true,Bool.not_false]
 have q9:=of_decide_eq_false b9
 refine l_M (.string (s)) (Ar rfl rfl rfl b9) rfl ?_
 refine Aa (Ar rfl rfl rfl b9) (Aaw 0 c8 Tryd.underlying9 rfl (q:=0) rfl rfl hc8) ?_
 refine Aa (Ar rfl rfl rfl b9) (Gk (p:=((c8.toNat:Nat):Int)) (q:=122) rfl rfl) ?_
 refine Aa rfl (Bm rfl b9 (v:=(.bool (decide (((c8.toNat:Nat):Int) > 122)))) rfl) ?_
 apply Ac
 apply k3
 refine As (t:=decide (((c8.toNat:Nat):Int) > 122)) rfl (fun b12=>?_) (fun b12=>?_)
 ·have q12:=of_decide_eq_true b12
  refine w_q rfl rfl fun K13 k13=>?_
  refine l_A (.bool (false)) rfl rfl ?_
  apply Ac
  apply k13
  refine Aq ?_
  refine hret _ _ _ ?_
  refine ⟨rfl,rfl,Eq.trans (b:=(.bool (false))) rfl ?_⟩
  simp only [Hi,Pu,hc8,b4,b7,b9,b12,Bool.true_and,Bool.false_and,Bool.and_true,Bool.and_false,Bool.true_or,Bool.false_or,Bool.or_true,Bool.or_false,Bool.not_true,Bool.not_false]
 have q12:=of_decide_eq_false b12
 refine Al ?_
 apply k2
 refine Ai fun K14 k14=>?_
 refine w_q rfl rfl fun K15 k15=>?_
 refine l_A (iV (0)) rfl rfl ?_
 apply Ac
 apply k15
 refine Ao ?_
 refine Cc (fun mm ee dd ρ' σ'=>∃ (i:Nat),(s.size - i) = mm∧[] = dd∧ρ = ρ'∧σ = σ'∧ee 0 = (.string (s))∧ee 3 = (iV ((i:Int)))∧(i ≤ s.size)∧(∀ j,j < i→Alz s j = true)∧True) (m:=_) ⟨0,rfl,rfl,rfl,rfl,rfl,rfl,(Nat.zero_le _),(fun j h=>absurd h (Nat.not_lt_zero _)),trivial⟩ ?_
 rintro m16 e16 _ _ _ ⟨i,rfl,rfl,rfl,rfl,h16_0,h16_3,p16_0,p16_1,_⟩
 refine Ai fun K17 k17=>?_
 refine w_q rfl rfl fun K18 k18=>?_
 refine Aa rfl (Ah (v:=(iV ((i:Int)))) h16_3) ?_
 refine Aa rfl (Ah (v:=(.string (s))) h16_0) ?_
 refine Aa rfl (Afb Tryd.underlying9 (s:=s) rfl) ?_
 refine Aa rfl (Da (p:=(i:Int)) (q:=((s.size:Nat):Int)) rfl rfl) ?_
 apply Ac
 apply k18
 refine As (t:=decide ((i:Int) < ((s.size:Nat):Int))) rfl (fun b19=>?_) (fun b19=>?_)
 ·have q19:=of_decide_eq_true b19
  refine Al ?_
  apply k17
  refine Ai fun K20 k20=>?_
  refine Ao ?_
  refine w_q rfl rfl fun K21 k21=>?_
  refine Aa rfl (Ah (v:=(.string (s))) h16_0) ?_
  refine Aa rfl (Ah (v:=(iV ((i:Int)))) h16_3) ?_
  obtain ⟨c22,hc22⟩:=Alh (s:=s) (i:=i) (by omega)
  refine Aa rfl (Aaw i c22 Tryd.underlying9 rfl (q:=(i:Int)) rfl rfl hc22) ?_
  refine l_A (.int .u8 (((c22.toNat:Nat):Int))) rfl rfl ?_
  apply Ac
  apply k21
  refine w_q rfl rfl fun K23 k23=>?_
  refine l_M (.int .u8 (((c22.toNat:Nat):Int))) rfl rfl ?_
  refine Aa rfl (Da (p:=((c22.toNat:Nat):Int)) (q:=97) rfl rfl) ?_
  refine l_M (.bool (decide (((c22.toNat:Nat):Int) < 97))) rfl rfl ?_
  refine Cn (decide (((c22.toNat:Nat):Int) < 97)) (fun b24=>?_) (fun b24=>?_)
  ·have q24:=of_decide_eq_true b24
   refine Ap (Bl rfl rfl rfl b24) ?_
   refine Ap (Bl rfl rfl rfl b24) ?_
   refine Aa rfl (Bt rfl b24 (v:=(.bool (true))) rfl) ?_
   refine l_M (.bool (true)) rfl rfl ?_
   refine l_M (.int .u8 (((c22.toNat:Nat):Int))) (Ar rfl rfl rfl rfl) rfl ?_
   refine Aa (Ar rfl rfl rfl rfl) (Da (p:=((c22.toNat:Nat):Int)) (q:=48) rfl rfl) ?_
   refine l_M (.bool (decide (((c22.toNat:Nat):Int) < 48))) (Ar rfl rfl rfl rfl) rfl ?_
   refine Cn (decide (((c22.toNat:Nat):Int) < 48)) (fun b25=>?_) (fun b25=>?_)
   ·have q25:=of_decide_eq_true b25
    refine Ap (Bl rfl rfl rfl b25) ?_
    refine Ap (Bl rfl rfl rfl b25) ?_
    refine Aa (Ar rfl rfl rfl rfl) (Bt rfl b25 (v:=(.bool (true))) rfl) ?_
    refine Aa rfl (Bt rfl rfl (v:=(.bool (true))) rfl) ?_
    refine l_M (.bool (true)) rfl rfl ?_
    refine l_M (.int .u8 (((c22.toNat:Nat):Int))) (Ar rfl rfl rfl rfl) rfl ?_
    refine Aa (Ar rfl rfl rfl rfl) (Dg (p:=((c22.toNat:Nat):Int)) (q:=45) rfl rfl) ?_
    refine Aa rfl (Bt rfl rfl (v:=(.bool (((c22.toNat:Nat):Int) != 45))) rfl) ?_
    apply Ac
    apply k23
    refine As (t:=((c22.toNat:Nat):Int) != 45) rfl (fun b26=>?_) (fun b26=>?_)
    ·have q26:=Mb b26
     refine w_q rfl rfl fun K27 k27=>?_
     refine l_A (.bool (false)) rfl rfl ?_
     apply Ac
     apply k27
     refine Aq ?_
     refine hret _ _ _ ?_
     refine ⟨rfl,rfl,Eq.trans (b:=(.bool (false))) rfl ?_⟩
     have hbad:Alz s i = false:=by simp only [Alz,hc22,Pk,b4,b7,b9,b12,b19,b24,b25,b26,Bool.true_and,Bool.false_and,Bool.and_true,Bool.and_false,Bool.true_or,Bool.false_or,Bool.or_true,Bool.or_false,Bool.not_true,Bool.not_false]
     have hall:=okAll_f (by omega) hbad
     simp only [Hi,hall,b4,b7,b9,b12,b19,b24,b25,b26,Bool.true_and,Bool.false_and,Bool.and_true,Bool.and_false,Bool.true_or,Bool.false_or,Bool.or_true,Bool.or_false,Bool.not_true,Bool.not_false]
    have q26:=Jh b26
    refine Al ?_
    apply k20
    refine Ag rfl rfl ?_
    refine Aa rfl (Ah (v:=(iV ((i:Int)))) h16_3) ?_
    refine Aa rfl (Br (p:=(i:Int)) (q:=1) rfl rfl (z:=(((i + 1):Nat):Int)) (Bo (by first | rfl | omega | (push_cast; rfl)) (by omega) (by omega))) ?_
    refine l_A (iV ((((i + 1):Nat):Int))) rfl rfl ?_
    apply Ac
    refine ⟨_,?_,((i + 1)),rfl,rfl,rfl,rfl,h16_0,rfl,(by omega),(Ef p16_1 (by simp only [Alz,hc22,Pk,b4,b7,b9,b12,b19,b24,b25,b26,Bool.true_and,Bool.false_and,Bool.and_true,Bool.and_false,Bool.true_or,Bool.false_or,Bool.or_true,Bool.or_false,Bool.not_true,Bool.not_false])),trivial⟩
    omega
   have q25:=of_decide_eq_false b25
   refine l_M (.int .u8 (((c22.toNat:Nat):Int))) (Ar rfl rfl rfl b25) rfl ?_
   refine Aa (Ar rfl rfl rfl b25) (Gk (p:=((c22.toNat:Nat):Int)) (q:=57) rfl rfl) ?_
   refine Aa (Ar rfl rfl rfl rfl) (Bm rfl b25 (v:=(.bool (decide (((c22.toNat:Nat):Int) > 57)))) rfl) ?_
   refine Aa rfl (Bt rfl rfl (v:=(.bool (decide (((c22.toNat:Nat):Int) > 57)))) rfl) ?_
   refine l_M (.bool (decide (((c22.toNat:Nat):Int) > 57))) rfl rfl ?_
   refine Cn (decide (((c22.toNat:Nat):Int) > 57)) (fun b28=>?_) (fun b28=>?_)
   ·have q28:=of_decide_eq_true b28
    refine l_M (.int .u8 (((c22.toNat:Nat):Int))) (Ar rfl rfl rfl b28) rfl ?_
    refine Aa (Ar rfl rfl rfl b28) (Dg (p:=((c22.toNat:Nat):Int)) (q:=45) rfl rfl) ?_
    refine Aa rfl (Bt rfl b28 (v:=(.bool (((c22.toNat:Nat):Int) != 45))) rfl) ?_
    apply Ac
    apply k23
    refine As (t:=((c22.toNat:Nat):Int) != 45) rfl (fun b29=>?_) (fun b29=>?_)
    ·have q29:=Mb b29
     refine w_q rfl rfl fun K30 k30=>?_
     refine l_A (.bool (false)) rfl rfl ?_
     apply Ac
     apply k30
     refine Aq ?_
     refine hret _ _ _ ?_
     refine ⟨rfl,rfl,Eq.trans (b:=(.bool (false))) rfl ?_⟩
     have hbad:Alz s i = false:=by simp only [Alz,hc22,Pk,b4,b7,b9,b12,b19,b24,b25,b28,b29,Bool.true_and,Bool.false_and,Bool.and_true,Bool.and_false,Bool.true_or,Bool.false_or,Bool.or_true,Bool.or_false,Bool.not_true,Bool.not_false]
     have hall:=okAll_f (by omega) hbad
     simp only [Hi,hall,b4,b7,b9,b12,b19,b24,b25,b28,b29,Bool.true_and,Bool.false_and,Bool.and_true,Bool.and_false,Bool.true_or,Bool.false_or,Bool.or_true,Bool.or_false,Bool.not_true,Bool.not_false]
    have q29:=Jh b29
    refine Al ?_
    apply k20
    refine Ag rfl rfl ?_
    refine Aa rfl (Ah (v:=(iV ((i:Int)))) h16_3) ?_
    refine Aa rfl (Br (p:=(i:Int)) (q:=1) rfl rfl (z:=(((i + 1):Nat):Int)) (Bo (by first | rfl | omega | (push_cast; rfl)) (by omega) (by omega))) ?_
    refine l_A (iV ((((i + 1):Nat):Int))) rfl rfl ?_
    apply Ac
    refine ⟨_,?_,((i + 1)),rfl,rfl,rfl,rfl,h16_0,rfl,(by omega),(Ef p16_1 (by simp only [Alz,hc22,Pk,b4,b7,b9,b12,b19,b24,b25,b28,b29,Bool.true_and,Bool.false_and,Bool.and_true,Bool.and_false,Bool.true_or,Bool.false_or,Bool.or_true,Bool.or_false,Bool.not_true,Bool.not_false])),trivial⟩
    omega
   have q28:=of_decide_eq_false b28
   refine Ap (Bl rfl rfl rfl b28) ?_
   refine Ap (Bl rfl rfl rfl b28) ?_
   refine Aa rfl (Bm rfl b28 (v:=(.bool (false))) rfl) ?_
   apply Ac
   apply k23
   refine Cg rfl rfl ?_
   refine Al ?_
   apply k20
   refine Ag rfl rfl ?_
   refine Aa rfl (Ah (v:=(iV ((i:Int)))) h16_3) ?_
   refine Aa rfl (Br (p:=(i:Int)) (q:=1) rfl rfl (z:=(((i + 1):Nat):Int)) (Bo (by first | rfl | omega | (push_cast; rfl)) (by omega) (by omega))) ?_
   refine l_A (iV ((((i + 1):Nat):Int))) rfl rfl ?_
   apply Ac
   refine ⟨_,?_,((i + 1)),rfl,rfl,rfl,rfl,h16_0,rfl,(by omega),(Ef p16_1 (by simp only [Alz,hc22,Pk,b4,b7,b9,b12,b19,b24,b25,b28,Bool.true_and,Bool.false_and,Bool.and_true,Bool.and_false,Bool.true_or,Bool.false_or,Bool.or_true,Bool.or_false,Bool.not_true,Bool.not_false])),trivial⟩
   omega
  have q24:=of_decide_eq_false b24
  refine l_M (.int .u8 (((c22.toNat:Nat):Int))) (Ar rfl rfl rfl b24) rfl ?_
  refine Aa (Ar rfl rfl rfl b24) (Gk (p:=((c22.toNat:Nat):Int)) (q:=122) rfl rfl) ?_
  refine Aa rfl (Bm rfl b24 (v:=(.bool (decide (((c22.toNat:Nat):Int) > 122)))) rfl) ?_
  refine l_M (.bool (decide (((c22.toNat:Nat):Int) > 122))) rfl rfl ?_
  refine Cn (decide (((c22.toNat:Nat):Int) > 122)) (fun b31=>?_) (fun b31=>?_)
  ·have q31:=of_decide_eq_true b31
   refine l_M (.int .u8 (((c22.toNat:Nat):Int))) (Ar rfl rfl rfl b31) rfl ?_
   refine Aa (Ar rfl rfl rfl b31) (Da (p:=((c22.toNat:Nat):Int)) (q:=48) rfl rfl) ?_
   refine l_M (.bool (decide (((c22.toNat:Nat):Int) < 48))) (Ar rfl rfl rfl b31) rfl ?_
   refine Cn (decide (((c22.toNat:Nat):Int) < 48)) (fun b32=>?_) (fun b32=>?_)
   ·have q32:=of_decide_eq_true b32
    refine Ap (Bl rfl rfl rfl b32) ?_
    refine Ap (Bl rfl rfl rfl b32) ?_
    refine Aa (Ar rfl rfl rfl b31) (Bt rfl b32 (v:=(.bool (true))) rfl) ?_
    refine Aa rfl (Bt rfl b31 (v:=(.bool (true))) rfl) ?_
    refine l_M (.bool (true)) rfl rfl ?_
    refine l_M (.int .u8 (((c22.toNat:Nat):Int))) (Ar rfl rfl rfl rfl) rfl ?_
    refine Aa (Ar rfl rfl rfl rfl) (Dg (p:=((c22.toNat:Nat):Int)) (q:=45) rfl rfl) ?_
    refine Aa rfl (Bt rfl rfl (v:=(.bool (((c22.toNat:Nat):Int) != 45))) rfl) ?_
    apply Ac
    apply k23
    refine As (t:=((c22.toNat:Nat):Int) != 45) rfl (fun b33=>?_) (fun b33=>?_)
    ·have q33:=Mb b33
     refine w_q rfl rfl fun K34 k34=>?_
     refine l_A (.bool (false)) rfl rfl ?_
     apply Ac
     apply k34
     refine Aq ?_
     refine hret _ _ _ ?_
     refine ⟨rfl,rfl,Eq.trans (b:=(.bool (false))) rfl ?_⟩
     have hbad:Alz s i = false:=by simp only [Alz,hc22,Pk,b4,b7,b9,b12,b19,b24,b31,b32,b33,Bool.true_and,Bool.false_and,Bool.and_true,Bool.and_false,Bool.true_or,Bool.false_or,Bool.or_true,Bool.or_false,Bool.not_true,Bool.not_false]
     have hall:=okAll_f (by omega) hbad
     simp only [Hi,hall,b4,b7,b9,b12,b19,b24,b31,b32,b33,Bool.true_and,Bool.false_and,Bool.and_true,Bool.and_false,Bool.true_or,Bool.false_or,Bool.or_true,Bool.or_false,Bool.not_true,Bool.not_false]
    have q33:=Jh b33
    refine Al ?_
    apply k20
    refine Ag rfl rfl ?_
    refine Aa rfl (Ah (v:=(iV ((i:Int)))) h16_3) ?_
    refine Aa rfl (Br (p:=(i:Int)) (q:=1) rfl rfl (z:=(((i + 1):Nat):Int)) (Bo (by first | rfl | omega | (push_cast; rfl)) (by omega) (by omega))) ?_
    refine l_A (iV ((((i + 1):Nat):Int))) rfl rfl ?_
    apply Ac
    refine ⟨_,?_,((i + 1)),rfl,rfl,rfl,rfl,h16_0,rfl,(by omega),(Ef p16_1 (by simp only [Alz,hc22,Pk,b4,b7,b9,b12,b19,b24,b31,b32,b33,Bool.true_and,Bool.false_and,Bool.and_true,Bool.and_false,Bool.true_or,Bool.false_or,Bool.or_true,Bool.or_false,Bool.not_true,Bool.not_false])),trivial⟩
    omega
   have q32:=of_decide_eq_false b32
   refine l_M (.int .u8 (((c22.toNat:Nat):Int))) (Ar rfl rfl rfl b32) rfl ?_
   refine Aa (Ar rfl rfl rfl b32) (Gk (p:=((c22.toNat:Nat):Int)) (q:=57) rfl rfl) ?_
   refine Aa (Ar rfl rfl rfl b31) (Bm rfl b32 (v:=(.bool (decide (((c22.toNat:Nat):Int) > 57)))) rfl) ?_
   refine Aa rfl (Bt rfl b31 (v:=(.bool (decide (((c22.toNat:Nat):Int) > 57)))) rfl) ?_
   refine l_M (.bool (decide (((c22.toNat:Nat):Int) > 57))) rfl rfl ?_
   refine Cn (decide (((c22.toNat:Nat):Int) > 57)) (fun b35=>?_) (fun b35=>?_)
   ·have q35:=of_decide_eq_true b35
    refine l_M (.int .u8 (((c22.toNat:Nat):Int))) (Ar rfl rfl rfl b35) rfl ?_
    refine Aa (Ar rfl rfl rfl b35) (Dg (p:=((c22.toNat:Nat):Int)) (q:=45) rfl rfl) ?_
    refine Aa rfl (Bt rfl b35 (v:=(.bool (((c22.toNat:Nat):Int) != 45))) rfl) ?_
    apply Ac
    apply k23
    refine As (t:=((c22.toNat:Nat):Int) != 45) rfl (fun b36=>?_) (fun b36=>?_)
    ·have q36:=Mb b36
     refine w_q rfl rfl fun K37 k37=>?_
     refine l_A (.bool (false)) rfl rfl ?_
     apply Ac
     apply k37
     refine Aq ?_
     refine hret _ _ _ ?_
     refine ⟨rfl,rfl,Eq.trans (b:=(.bool (false))) rfl ?_⟩
     have hbad:Alz s i = false:=by simp only [Alz,hc22,Pk,b4,b7,b9,b12,b19,b24,b31,b32,b35,b36,Bool.true_and,Bool.false_and,Bool.and_true,Bool.and_false,Bool.true_or,Bool.false_or,Bool.or_true,Bool.or_false,Bool.not_true,Bool.not_false]
     have hall:=okAll_f (by omega) hbad
     simp only [Hi,hall,b4,b7,b9,b12,b19,b24,b31,b32,b35,b36,Bool.true_and,Bool.false_and,Bool.and_true,Bool.and_false,Bool.true_or,Bool.false_or,Bool.or_true,Bool.or_false,Bool.not_true,Bool.not_false]
    have q36:=Jh b36
    refine Al ?_
    apply k20
    refine Ag rfl rfl ?_
    refine Aa rfl (Ah (v:=(iV ((i:Int)))) h16_3) ?_
    refine Aa rfl (Br (p:=(i:Int)) (q:=1) rfl rfl (z:=(((i + 1):Nat):Int)) (Bo (by first | rfl | omega | (push_cast; rfl)) (by omega) (by omega))) ?_
    refine l_A (iV ((((i + 1):Nat):Int))) rfl rfl ?_
    apply Ac
    refine ⟨_,?_,((i + 1)),rfl,rfl,rfl,rfl,h16_0,rfl,(by omega),(Ef p16_1 (by simp only [Alz,hc22,Pk,b4,b7,b9,b12,b19,b24,b31,b32,b35,b36,Bool.true_and,Bool.false_and,Bool.and_true,Bool.and_false,Bool.true_or,Bool.false_or,Bool.or_true,Bool.or_false,Bool.not_true,Bool.not_false])),trivial⟩
    omega
   have q35:=of_decide_eq_false b35
   refine Ap (Bl rfl rfl rfl b35) ?_
   refine Ap (Bl rfl rfl rfl b35) ?_
   refine Aa rfl (Bm rfl b35 (v:=(.bool (false))) rfl) ?_
   apply Ac
   apply k23
   refine Cg rfl rfl ?_
   refine Al ?_
   apply k20
   refine Ag rfl rfl ?_
   refine Aa rfl (Ah (v:=(iV ((i:Int)))) h16_3) ?_
   refine Aa rfl (Br (p:=(i:Int)) (q:=1) rfl rfl (z:=(((i + 1):Nat):Int)) (Bo (by first | rfl | omega | (push_cast; rfl)) (by omega) (by omega))) ?_
   refine l_A (iV ((((i + 1):Nat):Int))) rfl rfl ?_
   apply Ac
   refine ⟨_,?_,((i + 1)),rfl,rfl,rfl,rfl,h16_0,rfl,(by omega),(Ef p16_1 (by simp only [Alz,hc22,Pk,b4,b7,b9,b12,b19,b24,b31,b32,b35,Bool.true_and,Bool.false_and,Bool.and_true,Bool.and_false,Bool.true_or,Bool.false_or,Bool.or_true,Bool.or_false,Bool.not_true,Bool.not_false])),trivial⟩
   omega
  have q31:=of_decide_eq_false b31
  refine Ap (Bl rfl rfl rfl b31) ?_
  refine Ap (Bl rfl rfl rfl b31) ?_
  refine Ap (Bl rfl rfl rfl b31) ?_
  refine Ap (Jf rfl rfl rfl) ?_
  refine Ap (Jf rfl rfl rfl) ?_
  refine Ap (Bl rfl rfl rfl b31) ?_
  refine Aa rfl (Bm rfl b31 (v:=(.bool (false))) rfl) ?_
  refine l_M (.bool (false)) rfl rfl ?_
  refine Ap (Bl rfl rfl rfl rfl) ?_
  refine Ap (Bl rfl rfl rfl rfl) ?_
  refine Aa rfl (Bm rfl rfl (v:=(.bool (false))) rfl) ?_
  apply Ac
  apply k23
  refine Cg rfl rfl ?_
  refine Al ?_
  apply k20
  refine Ag rfl rfl ?_
  refine Aa rfl (Ah (v:=(iV ((i:Int)))) h16_3) ?_
  refine Aa rfl (Br (p:=(i:Int)) (q:=1) rfl rfl (z:=(((i + 1):Nat):Int)) (Bo (by first | rfl | omega | (push_cast; rfl)) (by omega) (by omega))) ?_
  refine l_A (iV ((((i + 1):Nat):Int))) rfl rfl ?_
  apply Ac
  refine ⟨_,?_,((i + 1)),rfl,rfl,rfl,rfl,h16_0,rfl,(by omega),(Ef p16_1 (by simp only [Alz,hc22,Pk,b4,b7,b9,b12,b19,b24,b31,Bool.true_and,Bool.false_and,Bool.and_true,Bool.and_false,Bool.true_or,Bool.false_or,Bool.or_true,Bool.or_false,Bool.not_true,Bool.not_false])),trivial⟩
  omega
 have q19:=of_decide_eq_false b19
 refine Bx ?_
 apply k14
 refine w_q rfl rfl fun K38 k38=>?_
 refine l_A (.bool (true)) rfl rfl ?_
 apply Ac
 apply k38
 refine Aq ?_
 refine hret _ _ _ ?_
 refine ⟨rfl,rfl,Eq.trans (b:=(.bool (true))) rfl ?_⟩
 have hall:=okAll_t.2 fun j hj=>p16_1 j (by omega)
 simp only [Hi,Pu,hall,hc8,b4,b7,b9,b12,b19,Bool.true_and,Bool.false_and,Bool.and_true,Bool.and_false,Bool.true_or,Bool.false_or,Bool.or_true,Bool.or_false,Bool.not_true,Bool.not_false]
set_option maxRecDepth 100000 in
theorem c_Find {mn:Bool} {X:Frame→List Frame→Ro→Own→Cy→Prop} {ρ:Ro} {σ:Own} {l:List ByteArray} {vl:Value} {s:ByteArray} (rl:Val ρ vl l):CallsH (CX mn X) 114 #[vl,(.string (s))] ρ σ (fun w ρ' σ'=>ρ' = ρ∧σ' = σ∧w = (iV (Ajt l s))):=by
 refine Bh (n:=19) (args:=[vl,(.string (s))]) [4] Tryd.func114 rfl rfl rfl rfl fun Q hret hnor=>?_
 refine w_q rfl rfl fun K1 k1=>?_
 refine l_A (iV (0)) rfl rfl ?_
 apply Ac
 apply k1
 refine Ai fun K2 k2=>?_
 refine w_q rfl rfl fun K3 k3=>?_
 refine l_A (iV (0)) rfl rfl ?_
 apply Ac
 apply k3
 refine Ao ?_
 refine Cc (fun mm ee dd ρ' σ'=>∃ (i:Nat),(l.length - i) = mm∧[] = dd∧ρ = ρ'∧σ = σ'∧ee 0 = vl∧ee 1 = (.string (s))∧ee 5 = (iV ((i:Int)))∧(i ≤ l.length)∧(∀ j,j < i→Xp l s j = false)∧True) (m:=_) ⟨0,rfl,rfl,rfl,rfl,rfl,rfl,rfl,(Nat.zero_le _),(fun j h=>absurd h (Nat.not_lt_zero _)),trivial⟩ ?_
 rintro m4 e4 _ _ _ ⟨i,rfl,rfl,rfl,rfl,h4_0,h4_1,h4_5,p4_0,p4_1,_⟩
 refine Ai fun K5 k5=>?_
 refine w_q rfl rfl fun K6 k6=>?_
 refine Aa rfl (Ah (v:=(iV ((i:Int)))) h4_5) ?_
 refine Aa rfl (Ah (v:=vl) h4_0) ?_
 have g7:=Val.len rl
 refine Aa rfl (Ce (el:=9) Tryd.underlying22 rfl rl) ?_
 refine Aa rfl (Da (p:=(i:Int)) (q:=((l.length:Nat):Int)) rfl rfl) ?_
 apply Ac
 apply k6
 refine As (t:=decide ((i:Int) < ((l.length:Nat):Int))) rfl (fun b8=>?_) (fun b8=>?_)
 ·have q8:=of_decide_eq_true b8
  refine Al ?_
  apply k5
  refine Ai fun K9 k9=>?_
  refine Ao ?_
  refine w_q rfl rfl fun K10 k10=>?_
  refine Aa rfl (Ah (v:=vl) h4_0) ?_
  refine Aa rfl (Ah (v:=(iV ((i:Int)))) h4_5) ?_
  obtain ⟨a12,ha12⟩:=Ed (xs:=l) (i:=i) (by omega)
  refine Ak rfl (Ci i Tryd.underlying22 ty9 rfl rl (q:=(i:Int)) rfl rfl ha12) fun v11 r11=>?_
  have g13:=At.slen r11
  refine Aa rfl (Oz ty9 rfl r11) ?_
  refine Aa rfl (Ah (v:=(.string (s))) h4_1) ?_
  refine Aa rfl (y_eqs (p:=a12) (q:=s) rfl rfl) ?_
  apply Ac
  apply k10
  refine As (t:=(a12).toList == (s).toList) rfl (fun b14=>?_) (fun b14=>?_)
  ·have q14:=Jo b14
   refine w_q rfl rfl fun K15 k15=>?_
   refine Aa rfl (Ah (v:=(iV ((i:Int)))) h4_5) ?_
   refine l_A (iV ((i:Int))) rfl rfl ?_
   apply Ac
   apply k15
   refine Aq ?_
   refine hret _ _ _ ?_
   refine ⟨rfl,rfl,Eq.trans (b:=(iV ((i:Int)))) rfl ?_⟩
   have hi:=Fg (n:=l.length) p4_1 (by omega) (show Xp l s i = true by simp only [Xp,ha12,b8,b14])
   simp only [Ajt,hi]
  have q14:=La b14
  refine Al ?_
  apply k9
  refine Ag rfl rfl ?_
  refine Aa rfl (Ah (v:=(iV ((i:Int)))) h4_5) ?_
  refine Aa rfl (Br (p:=(i:Int)) (q:=1) rfl rfl (z:=(((i + 1):Nat):Int)) (Bo (by first | rfl | omega | (push_cast; rfl)) (by omega) (by omega))) ?_
  refine l_A (iV ((((i + 1):Nat):Int))) rfl rfl ?_
  apply Ac
  refine ⟨_,?_,((i + 1)),rfl,rfl,rfl,rfl,h4_0,h4_1,rfl,(by omega),(Ef p4_1 (by simp only [Xp,ha12,b8,b14])),trivial⟩
  omega
 have q8:=of_decide_eq_false b8
 refine Bx ?_
 apply k2
 refine w_q rfl rfl fun K16 k16=>?_
 refine l_A (iV ((-1))) rfl rfl ?_
 apply Ac
 apply k16
 refine Aq ?_
 refine hret _ _ _ ?_
 refine ⟨rfl,rfl,Eq.trans (b:=(iV ((-1)))) rfl ?_⟩
 have hn:=Ep (n:=l.length) fun j hj=>p4_1 j (by omega)
 simp only [Ajt,hn]
set_option maxRecDepth 100000 in
theorem c_names {mn:Bool} {X:Frame→List Frame→Ro→Own→Cy→Prop} {ρ:Ro} {σ:Own} {l:List ByteArray} {vl:Value} {most:Int} (rl:Val ρ vl l):CallsH (CX mn X) 77 #[vl,(iV (most))] ρ σ (fun w ρ' σ'=>ρ' = ρ∧σ' = σ∧w = (iV (Dd l most))):=by
 refine Bh (n:=31) (args:=[vl,(iV (most))]) [4] Tryd.func77 rfl rfl rfl rfl fun Q hret hnor=>?_
 refine w_q rfl rfl fun K1 k1=>?_
 refine l_A (iV (0)) rfl rfl ?_
 apply Ac
 apply k1
 refine Ai fun K2 k2=>?_
 refine w_q rfl rfl fun K3 k3=>?_
 refine l_M vl rfl rfl ?_
 have g4:=Val.len rl
 refine Aa rfl (Ce (el:=9) Tryd.underlying22 rfl rl) ?_
 refine l_M (iV (most)) rfl rfl ?_
 refine Aa rfl (Gk (p:=((l.length:Nat):Int)) (q:=most) rfl rfl) ?_
 apply Ac
 apply k3
 refine As (t:=decide (((l.length:Nat):Int) > most)) rfl (fun b5=>?_) (fun b5=>?_)
 ·have q5:=of_decide_eq_true b5
  refine w_q rfl rfl fun K6 k6=>?_
  refine l_A (iV (2)) rfl rfl ?_
  apply Ac
  apply k6
  refine Aq ?_
  refine hret _ _ _ ?_
  refine ⟨rfl,rfl,Eq.trans (b:=(iV (2))) rfl ?_⟩
  rw [Dd,if_pos (by omega)]
 have q5:=of_decide_eq_false b5
 refine Al ?_
 apply k2
 refine Ai fun K7 k7=>?_
 refine w_q rfl rfl fun K8 k8=>?_
 refine l_A (iV (0)) rfl rfl ?_
 apply Ac
 apply k8
 refine Ao ?_
 refine Cc (fun mm ee dd ρ' σ'=>∃ (i:Nat),(l.length - i) = mm∧[] = dd∧ρ = ρ'∧σ = σ'∧ee 0 = vl∧ee 5 = (iV ((i:Int)))∧(i ≤ l.length)∧(∀ j,j < i→Nh l j = 0)∧True) (m:=_) ⟨0,rfl,rfl,rfl,rfl,rfl,rfl,(Nat.zero_le _),(fun j h=>absurd h (Nat.not_lt_zero _)),trivial⟩ ?_
 rintro m9 e9 _ _ _ ⟨i,rfl,rfl,rfl,rfl,h9_0,h9_5,p9_0,p9_1,_⟩
 refine Ai fun K10 k10=>?_
 refine w_q rfl rfl fun K11 k11=>?_
 refine Aa rfl (Ah (v:=(iV ((i:Int)))) h9_5) ?_
 refine Aa rfl (Ah (v:=vl) h9_0) ?_
 have g12:=Val.len rl
 refine Aa rfl (Ce (el:=9) Tryd.underlying22 rfl rl) ?_
 refine Aa rfl (Da (p:=(i:Int)) (q:=((l.length:Nat):Int)) rfl rfl) ?_
 apply Ac
 apply k11
 refine As (t:=decide ((i:Int) < ((l.length:Nat):Int))) rfl (fun b13=>?_) (fun b13=>?_)
 ·have q13:=of_decide_eq_true b13
  refine Al ?_
  apply k10
  refine Ai fun K14 k14=>?_
  refine Ao ?_
  refine Ai fun K15 k15=>?_
  refine w_q rfl rfl fun K16 k16=>?_
  refine Aa rfl (Ah (v:=vl) h9_0) ?_
  refine Aa rfl (Ah (v:=(iV ((i:Int)))) h9_5) ?_
  obtain ⟨a18,ha18⟩:=Ed (xs:=l) (i:=i) (by omega)
  refine Ak rfl (Ci i Tryd.underlying22 ty9 rfl rl (q:=(i:Int)) rfl rfl ha18) fun v17 r17=>?_
  have g19:=At.slen r17
  refine Aa rfl (Oz ty9 rfl r17) ?_
  refine Ae rfl (Bn (vs:=[(.string (a18))]) (v:=(.bool (Hi a18))) (c_Name) Tryd.func78 rfl rfl ⟨rfl,trivial⟩ ?_)
  refine Aa rfl (Ix (k:=Hi a18) rfl) ?_
  apply Ac
  apply k16
  refine As (t:=!(Hi a18)) rfl (fun b20=>?_) (fun b20=>?_)
  ·have b21:=not_eq_t b20
   refine w_q rfl rfl fun K22 k22=>?_
   refine l_A (iV (4)) rfl rfl ?_
   apply Ac
   apply k22
   refine Aq ?_
   refine hret _ _ _ ?_
   refine ⟨rfl,rfl,Eq.trans (b:=(iV (4))) rfl ?_⟩
   have hf:Nh l i = 4:=by simp only [Nh,ha18,b5,b13,b20,b21]; first | rfl | omega | (simp; done) | (simp; omega)
   rw [Dd,if_neg (by omega),Db p9_1 (by omega) hf (by omega)]
  have b23:=not_eq_f b20
  refine Al ?_
  apply k15
  refine Ai fun K24 k24=>?_
  refine Dc [0,1,2,3,4,5,6,7,8] (by kernel_rfl) rfl rfl ?_
  refine Be (i:=0) Aov rfl (by kernel_rfl) rfl Ary rfl (Ah (v:=vl) h9_0) ?_
  refine Be (i:=1) Aof rfl (by kernel_rfl) rfl Ary rfl (Ah (v:=(iV ((i:Int)))) h9_5) ?_
  refine Cd (i:=2) Apd rfl (by kernel_rfl) rfl Ary rfl (y_slice_hi i Tryd.underlying22 ty9 rfl rl (q:=(i:Int)) rfl rfl (by omega)) fun v25 r25=>?_
  refine Be (i:=3) Anf rfl (by kernel_rfl) rfl Ary rfl (Ah (v:=vl) h9_0) ?_
  refine Bg (i:=4) Aon rfl (by kernel_rfl) rfl Ary rfl (Ah (v:=(iV ((i:Int)))) h9_5) ?_
  refine Hl (i:=5) Aob rfl (by kernel_rfl) rfl Ary rfl (Ci i Tryd.underlying22 ty9 rfl rl (q:=(i:Int)) rfl rfl ha18) fun v26 r26=>?_
  have g27:=At.slen r26
  refine Bg (i:=6) Aow rfl (by kernel_rfl) rfl Ary rfl (Oz ty9 rfl r26) ?_
  refine Dj (i:=7) Anz rfl (by kernel_rfl) rfl rfl (Bn (vs:=[v25,(.string (a18))]) (v:=(iV (Ajt ((l.take i)) a18))) (c_Find r25) Tryd.func114 rfl rfl ⟨rfl,rfl,trivial⟩ ⟨Ary,?_⟩)
  refine Bg (i:=8) Anb rfl (by kernel_rfl) rfl Ary rfl (Uv (p:=Ajt ((l.take i)) a18) (q:=0) rfl rfl) ?_
  refine Ec rfl ?_
  apply k24
  refine As (t:=decide (Ajt ((l.take i)) a18 ≥ 0)) rfl (fun b28=>?_) (fun b28=>?_)
  ·have q28:=of_decide_eq_true b28
   refine w_q rfl rfl fun K29 k29=>?_
   refine l_A (iV (5)) rfl rfl ?_
   apply Ac
   apply k29
   refine Aq ?_
   refine hret _ _ _ ?_
   refine ⟨rfl,rfl,Eq.trans (b:=(iV (5))) rfl ?_⟩
   have hf:Nh l i = 5:=by simp only [Nh,ha18,b5,b13,b20,b23,b28]; first | rfl | omega | (simp; done) | (simp; omega)
   rw [Dd,if_neg (by omega),Db p9_1 (by omega) hf (by omega)]
  have q28:=of_decide_eq_false b28
  refine Al ?_
  apply k14
  refine Ag rfl rfl ?_
  refine Aa rfl (Ah (v:=(iV ((i:Int)))) h9_5) ?_
  refine Aa rfl (Br (p:=(i:Int)) (q:=1) rfl rfl (z:=(((i + 1):Nat):Int)) (Bo (by first | rfl | omega | (push_cast; rfl)) (by omega) (by omega))) ?_
  refine l_A (iV ((((i + 1):Nat):Int))) rfl rfl ?_
  apply Ac
  refine ⟨_,?_,((i + 1)),rfl,rfl,rfl,rfl,h9_0,rfl,(by omega),(Ef p9_1 (by simp only [Nh,ha18,b5,b13,b20,b23,b28]; first | rfl | omega | (simp; done) | (simp; omega))),trivial⟩
  omega
 have q13:=of_decide_eq_false b13
 refine Bx ?_
 apply k7
 refine w_q rfl rfl fun K30 k30=>?_
 refine l_A (iV (0)) rfl rfl ?_
 apply Ac
 apply k30
 refine Aq ?_
 refine hret _ _ _ ?_
 refine ⟨rfl,rfl,Eq.trans (b:=(iV (0))) rfl ?_⟩
 rw [Dd,if_neg (by omega),Fb fun j hj=>p9_1 j (by omega)]
end Go.Proofs.YtoefdnbaklajeaaDoor

namespace Go.Proofs.YtoefdnbaklajeaaDoor
open Go
theorem testIs_none {l:Lab} {i:Nat} {s:ByteArray} (h:∀ j,j < i→Rm l s j = false):(Cl i (Rm l s)).isSome = false:=Fs.2 h
theorem testIs_some {l:Lab} {i k:Nat} {s:ByteArray} (hk:k < i) (h:Rm l s k = true):(Cl i (Rm l s)).isSome = true:=by
  cases hh:(Cl i (Rm l s)).isSome with
  | true=>rfl
  | false=>rw [Fs.1 hh k hk] at h; cases h
end Go.Proofs.YtoefdnbaklajeaaDoor

namespace Go.Proofs.YtoefdnbaklajeaaDoor
open Go
set_option maxRecDepth 100000 in
theorem c_refCheckLab {mn:Bool} {X:Frame→List Frame→Ro→Own→Cy→Prop} {ρ:Ro} {σ:Own} {l:Lab} {vl:Value} (rl:Val ρ vl l):CallsH (CX mn X) 39 #[vl] ρ σ (fun w ρ' σ'=>ρ' = ρ∧σ' = σ∧w = (iV (Gj l))):=by
 refine Bh (n:=83) (args:=[vl]) [2] Tryd.func39 rfl rfl rfl rfl fun Q hret hnor=>?_
 refine w_q rfl rfl fun K1 k1=>?_
 refine Ae rfl (Eb (v:=vl) rfl fun k2=>?_)
 refine Bb (a:=l) rl fun ρ2 l2 r2=>?_
 replace rl:=Asa l2 rl
 refine l_A (iV (0)) rfl rfl ?_
 apply Ac
 apply k1
 refine Ai fun K3 k3=>?_
 refine w_q rfl rfl fun K4 k4=>?_
 refine Ak rfl (Ay Lab.f_kinds Tryd.underlying40 rfl rfl Hu (by decide) rfl r2) fun v5 r5=>?_
 refine Ak rfl (Ax Hu rfl r5) fun v6 r6=>?_
 refine Ae rfl (Bn (vs:=[v6,(iV (4))]) (v:=(iV (Dd l.kinds 4))) (c_names r6) Tryd.func77 rfl rfl ⟨rfl,rfl,trivial⟩ ?_)
 refine l_A (iV (Dd l.kinds 4)) rfl rfl ?_
 apply Ac
 apply k4
 refine w_q rfl rfl fun K7 k7=>?_
 refine l_M (iV (Dd l.kinds 4)) rfl rfl ?_
 refine Aa rfl (Dg (p:=Dd l.kinds 4) (q:=0) rfl rfl) ?_
 apply Ac
 apply k7
 refine As (t:=Dd l.kinds 4 != 0) rfl (fun b8=>?_) (fun b8=>?_)
 ·have q8:=Mb b8
  refine w_q rfl rfl fun K9 k9=>?_
  refine l_M (iV (Dd l.kinds 4)) rfl rfl ?_
  refine l_A (iV (Dd l.kinds 4)) rfl rfl ?_
  apply Ac
  apply k9
  refine Aj (Arw l2) ?_
  refine Aq ?_
  refine hret _ _ _ ?_
  refine ⟨rfl,rfl,Eq.trans (b:=(iV (Dd l.kinds 4))) rfl ?_⟩
  rw [Gj,Rx q8]
 have q8:=Jh b8
 refine Al ?_
 apply k3
 refine Ai fun K10 k10=>?_
 refine w_q rfl rfl fun K11 k11=>?_
 refine Ak rfl (Ay Lab.f_most Tryd.underlying40 rfl rfl ty3 (by decide) rfl r2) fun v12 r12=>?_
 have ⟨g13a,g13b⟩:=At.rng r12
 refine Aa rfl (Bc ty3 rfl r12) ?_
 refine Ak rfl (Ay Lab.f_kinds Tryd.underlying40 rfl rfl Hu (by decide) rfl r2) fun v14 r14=>?_
 refine Ak rfl (Ax Hu rfl r14) fun v15 r15=>?_
 have g16:=Val.len r15
 refine Aa rfl (Ce (el:=9) Tryd.underlying22 rfl r15) ?_
 refine Ae rfl (Bn (vs:=[(iV (l.most)),(iV (0)),(iV (((l.kinds.length:Nat):Int)))]) (v:=(.bool (inR l.most 0 (((l.kinds.length:Nat):Int))))) (c_In) Tryd.func79 rfl rfl ⟨rfl,rfl,rfl,trivial⟩ ?_)
 refine Aa rfl (Ix (k:=inR l.most 0 (((l.kinds.length:Nat):Int))) rfl) ?_
 apply Ac
 apply k11
 refine As (t:=!(inR l.most 0 (((l.kinds.length:Nat):Int)))) rfl (fun b17=>?_) (fun b17=>?_)
 ·have b18:=not_eq_t b17
  have q18:=Ui.1 b18
  refine w_q rfl rfl fun K19 k19=>?_
  refine l_A (iV (1)) rfl rfl ?_
  apply Ac
  apply k19
  refine Aj (Arw l2) ?_
  refine Aq ?_
  refine hret _ _ _ ?_
  refine ⟨rfl,rfl,Eq.trans (b:=(iV (1))) rfl ?_⟩
  have hi:inR l.most 0 (l.kinds.length:Int) = false:=Ui.2 q18
  rw [Gj,Gt q8,Jw,hi]; rfl
 have b20:=not_eq_f b17
 have q20:=Ge.1 b20
 refine Al ?_
 apply k10
 refine Ai fun K21 k21=>?_
 refine w_q rfl rfl fun K22 k22=>?_
 refine Ak rfl (Ay Lab.f_tests Tryd.underlying40 rfl rfl Vd (by decide) rfl r2) fun v23 r23=>?_
 refine Ak rfl (Ax Vd rfl r23) fun v24 r24=>?_
 have g25:=Val.len r24
 refine Aa rfl (Ce (el:=108) Tryd.underlying38 rfl r24) ?_
 refine Aa rfl (Gk (p:=((l.tests.length:Nat):Int)) (q:=5) rfl rfl) ?_
 apply Ac
 apply k22
 refine As (t:=decide (((l.tests.length:Nat):Int) > 5)) rfl (fun b26=>?_) (fun b26=>?_)
 ·have q26:=of_decide_eq_true b26
  refine w_q rfl rfl fun K27 k27=>?_
  refine l_A (iV (2)) rfl rfl ?_
  apply Ac
  apply k27
  refine Aj (Arw l2) ?_
  refine Aq ?_
  refine hret _ _ _ ?_
  refine ⟨rfl,rfl,Eq.trans (b:=(iV (2))) rfl ?_⟩
  have hi:inR l.most 0 (l.kinds.length:Int) = true:=Ge.2 q20
  rw [Gj,Gt q8,Jw,hi,if_pos rfl,if_pos (by omega)]
 have q26:=of_decide_eq_false b26
 refine Al ?_
 apply k21
 refine Ai fun K28 k28=>?_
 refine w_q rfl rfl fun K29 k29=>?_
 refine l_A (iV (0)) rfl rfl ?_
 apply Ac
 apply k29
 refine Ao ?_
 refine Cc (fun mm ee dd ρ' σ'=>∃ (i:Nat),(l.tests.length - i) = mm∧[] = dd∧ρ2 = ρ'∧σ = σ'∧ee 1 = (.pointer (some ⟨k2,0,none⟩))∧ee 4 = (iV ((i:Int)))∧(i ≤ l.tests.length)∧(∀ j,j < i→Gz l j = 0)∧True) (m:=_) ⟨0,rfl,rfl,rfl,rfl,rfl,rfl,(Nat.zero_le _),(fun j h=>absurd h (Nat.not_lt_zero _)),trivial⟩ ?_
 rintro m30 e30 _ _ _ ⟨i,rfl,rfl,rfl,rfl,h30_1,h30_4,p30_0,p30_1,_⟩
 refine Ai fun K31 k31=>?_
 refine w_q rfl rfl fun K32 k32=>?_
 refine Aa rfl (Ah (v:=(iV ((i:Int)))) h30_4) ?_
 refine Ak rfl (Ay Lab.f_tests Tryd.underlying40 rfl rfl Vd (by decide) h30_1 r2) fun v33 r33=>?_
 refine Ak rfl (Ax Vd rfl r33) fun v34 r34=>?_
 have g35:=Val.len r34
 refine Aa rfl (Ce (el:=108) Tryd.underlying38 rfl r34) ?_
 refine Aa rfl (Da (p:=(i:Int)) (q:=((l.tests.length:Nat):Int)) rfl rfl) ?_
 apply Ac
 apply k32
 refine As (t:=decide ((i:Int) < ((l.tests.length:Nat):Int))) rfl (fun b36=>?_) (fun b36=>?_)
 ·have q36:=of_decide_eq_true b36
  refine Al ?_
  apply k31
  refine Ai fun K37 k37=>?_
  refine Ao ?_
  refine w_q rfl rfl fun K38 k38=>?_
  refine Ak rfl (Ay Lab.f_tests Tryd.underlying40 rfl rfl Vd (by decide) h30_1 r2) fun v39 r39=>?_
  refine Ak rfl (Ax Vd rfl r39) fun v40 r40=>?_
  refine Aa rfl (Ah (v:=(iV ((i:Int)))) h30_4) ?_
  obtain ⟨a42,ha42⟩:=Ed (xs:=l.tests) (i:=i) (by omega)
  refine Ak rfl (Ci i Tryd.underlying38 Td rfl r40 (q:=(i:Int)) rfl rfl ha42) fun v41 r41=>?_
  refine Ak rfl (Ax Td rfl r41) fun v43 r43=>?_
  refine Ae rfl (Ct Vm fun k44=>?_)
  refine Cx rfl (Du (v:=v43) (a:=a42) (c:=Aaf) Td rfl rfl r43 rfl ?_)
  refine Bb (a:=a42) r43 fun ρ45 l45 r45=>?_
  replace r2:=Arv l45 r2
  replace r39:=Arv l45 r39
  replace r40:=Asa l45 r40
  replace r41:=Arv l45 r41
  replace r43:=Asa l45 r43
  apply Ac
  apply k38
  refine Ai fun K46 k46=>?_
  refine w_q rfl rfl fun K47 k47=>?_
  refine Ak rfl (Ay FTest.f_name Tryd.underlying108 rfl rfl ty9 (by decide) rfl r45) fun v48 r48=>?_
  have g49:=At.slen r48
  refine Aa rfl (Oz ty9 rfl r48) ?_
  refine Ae rfl (Bn (vs:=[(.string (a42.name))]) (v:=(.bool (Hi a42.name))) (c_Name) Tryd.func78 rfl rfl ⟨rfl,trivial⟩ ?_)
  refine Aa rfl (Ix (k:=Hi a42.name) rfl) ?_
  apply Ac
  apply k47
  refine As (t:=!(Hi a42.name)) rfl (fun b50=>?_) (fun b50=>?_)
  ·have b51:=not_eq_t b50
   refine w_q rfl rfl fun K52 k52=>?_
   refine l_A (iV (4)) rfl rfl ?_
   apply Ac
   apply k52
   refine Aj (Arw (Arz l2 l45)) ?_
   refine Aq ?_
   refine hret _ _ _ ?_
   refine ⟨rfl,rfl,Eq.trans (b:=(iV (4))) rfl ?_⟩
   have hi:inR l.most 0 (l.kinds.length:Int) = true:=Ge.2 q20
   have hf:Gz l i = 4:=by
    simp [Gz,ha42,b8,b17,b20,b26,b36,b50,b51]
   rw [Gj,Gt q8,Jw,hi,if_pos rfl,if_neg (by omega),Db p30_1 (by omega) hf (by omega)]
  have b53:=not_eq_f b50
  refine Al ?_
  apply k46
  refine Ai fun K54 k54=>?_
  refine w_q rfl rfl fun K55 k55=>?_
  refine l_A (iV (0)) rfl rfl ?_
  apply Ac
  apply k55
  refine Ao ?_
  refine Cc (fun mm ee dd ρ' σ'=>∃ (k:Nat),(i - k) = mm∧[] = dd∧ρ45 = ρ'∧σ = σ'∧ee 1 = (.pointer (some ⟨k2,0,none⟩))∧ee 4 = (iV ((i:Int)))∧ee 5 = (.pointer (some ⟨k44,0,none⟩))∧ee 6 = (iV ((k:Int)))∧(k ≤ i)∧(∀ j,j < k→Rm l a42.name j = false)∧True) (m:=_) ⟨0,rfl,rfl,rfl,rfl,h30_1,h30_4,rfl,rfl,(Nat.zero_le _),(fun j h=>absurd h (Nat.not_lt_zero _)),trivial⟩ ?_
  rintro m56 e56 _ _ _ ⟨k,rfl,rfl,rfl,rfl,h56_1,h56_4,h56_5,h56_6,p56_0,p56_1,_⟩
  refine Ai fun K57 k57=>?_
  refine w_q rfl rfl fun K58 k58=>?_
  refine Aa rfl (Ah (v:=(iV ((k:Int)))) h56_6) ?_
  refine Aa rfl (Ah (v:=(iV ((i:Int)))) h56_4) ?_
  refine Aa rfl (Da (p:=(k:Int)) (q:=(i:Int)) rfl rfl) ?_
  apply Ac
  apply k58
  refine As (t:=decide ((k:Int) < (i:Int))) rfl (fun b59=>?_) (fun b59=>?_)
  ·have q59:=of_decide_eq_true b59
   refine Al ?_
   apply k57
   refine Ai fun K60 k60=>?_
   refine Ao ?_
   refine Ai fun K61 k61=>?_
   refine Dc [0,1,2,3,4,5,6,7,8] (by kernel_rfl) rfl rfl ?_
   refine Cd (i:=0) Aov rfl (by kernel_rfl) rfl Ary rfl (Ay Lab.f_tests Tryd.underlying40 rfl rfl Vd (by decide) h56_1 r2) fun v62 r62=>?_
   refine Cd (i:=1) Aof rfl (by kernel_rfl) rfl Ary rfl (Ax Vd rfl r62) fun v63 r63=>?_
   refine Be (i:=2) Apd rfl (by kernel_rfl) rfl Ary rfl (Ah (v:=(iV ((k:Int)))) h56_6) ?_
   obtain ⟨a65,ha65⟩:=Ed (xs:=l.tests) (i:=k) (by omega)
   refine Cd (i:=3) Anf rfl (by kernel_rfl) rfl Ary rfl (Ci k Tryd.underlying38 Td rfl r63 (q:=(k:Int)) rfl rfl ha65) fun v64 r64=>?_
   refine Cd (i:=4) Aon rfl (by kernel_rfl) rfl Ary rfl (Ay FTest.f_name Tryd.underlying108 rfl rfl ty9 (by decide) rfl r64) fun v66 r66=>?_
   have g67:=At.slen r66
   refine Be (i:=5) Aob rfl (by kernel_rfl) rfl Ary rfl (Oz ty9 rfl r66) ?_
   refine Hl (i:=6) Aow rfl (by kernel_rfl) rfl Ary rfl (Ay FTest.f_name Tryd.underlying108 rfl rfl ty9 (by decide) h56_5 r45) fun v68 r68=>?_
   have g69:=At.slen r68
   refine Bg (i:=7) Anz rfl (by kernel_rfl) rfl Ary rfl (Oz ty9 rfl r68) ?_
   refine Bg (i:=8) Anb rfl (by kernel_rfl) rfl Ary rfl (y_eqs (p:=a65.name) (q:=a42.name) rfl rfl) ?_
   refine Ec rfl ?_
   apply k61
   refine As (t:=(a65.name).toList == (a42.name).toList) rfl (fun b70=>?_) (fun b70=>?_)
   ·have q70:=Jo b70
    refine w_q rfl rfl fun K71 k71=>?_
    refine l_A (iV (5)) rfl rfl ?_
    apply Ac
    apply k71
    refine Aj (Arw (Arz l2 l45)) ?_
    refine Aq ?_
    refine hret _ _ _ ?_
    refine ⟨rfl,rfl,Eq.trans (b:=(iV (5))) rfl ?_⟩
    have hi:inR l.most 0 (l.kinds.length:Int) = true:=Ge.2 q20
    have hf:Gz l i = 5:=by
     have htw:=testIs_some (show k < i by omega) (show Rm l a42.name k = true by simp [Rm,ha65,b8,b17,b20,b26,b36,b50,b53,b59,b70,q8,q20,q26,q36,q59,q70])
     simp [Gz,ha42,htw,b8,b17,b20,b26,b36,b50,b53,b59,b70]
    rw [Gj,Gt q8,Jw,hi,if_pos rfl,if_neg (by omega),Db p30_1 (by omega) hf (by omega)]
   have q70:=La b70
   refine Al ?_
   apply k60
   refine Ag rfl rfl ?_
   refine Aa rfl (Ah (v:=(iV ((k:Int)))) h56_6) ?_
   refine Aa rfl (Br (p:=(k:Int)) (q:=1) rfl rfl (z:=(((k + 1):Nat):Int)) (Bo (by first | rfl | omega | (push_cast; rfl)) (by omega) (by omega))) ?_
   refine l_A (iV ((((k + 1):Nat):Int))) rfl rfl ?_
   apply Ac
   refine ⟨_,?_,((k + 1)),rfl,rfl,rfl,rfl,h56_1,h56_4,h56_5,rfl,(by omega),(Ef p56_1 (by simp [Rm,ha65,b8,b17,b20,b26,b36,b50,b53,b59,b70,q8,q20,q26,q36,q59,q70])),trivial⟩
   omega
  have q59:=of_decide_eq_false b59
  refine Bx ?_
  apply k54
  refine Ai fun K72 k72=>?_
  refine w_q rfl rfl fun K73 k73=>?_
  refine Ak rfl (Ay FTest.f_sees Tryd.underlying108 rfl rfl Aex (by decide) h56_5 r45) fun v74 r74=>?_
  refine Ak rfl (Ax Aex rfl r74) fun v75 r75=>?_
  have g76:=Val.len r75
  refine Aa rfl (Ce (el:=53) Tryd.underlying46 rfl r75) ?_
  refine Ak rfl (Ay Lab.f_kinds Tryd.underlying40 rfl rfl Hu (by decide) h56_1 r2) fun v77 r77=>?_
  refine Ak rfl (Ax Hu rfl r77) fun v78 r78=>?_
  have g79:=Val.len r78
  refine Aa rfl (Ce (el:=9) Tryd.underlying22 rfl r78) ?_
  refine Aa rfl (Dg (p:=((a42.sees.length:Nat):Int)) (q:=((l.kinds.length:Nat):Int)) rfl rfl) ?_
  apply Ac
  apply k73
  refine As (t:=((a42.sees.length:Nat):Int) != ((l.kinds.length:Nat):Int)) rfl (fun b80=>?_) (fun b80=>?_)
  ·have q80:=Mb b80
   refine w_q rfl rfl fun K81 k81=>?_
   refine l_A (iV (2)) rfl rfl ?_
   apply Ac
   apply k81
   refine Aj (Arw (Arz l2 l45)) ?_
   refine Aq ?_
   refine hret _ _ _ ?_
   refine ⟨rfl,rfl,Eq.trans (b:=(iV (2))) rfl ?_⟩
   have hi:inR l.most 0 (l.kinds.length:Int) = true:=Ge.2 q20
   have hf:Gz l i = 2:=by
    have htw:=(testIs_none fun j hj=>p56_1 j (by omega):(Cl i (Rm l a42.name)).isSome = false)
    simp only [Gz,ha42,htw,b8,b17,b20,b26,b36,b50,b53,b59,b80,if_true,Bool.false_eq_true,if_false]
    rw [if_neg (by omega)]
   rw [Gj,Gt q8,Jw,hi,if_pos rfl,if_neg (by omega),Db p30_1 (by omega) hf (by omega)]
  have q80:=Jh b80
  refine Al ?_
  apply k72
  refine w_q rfl rfl fun K82 k82=>?_
  refine l_A (iV (0)) rfl rfl ?_
  apply Ac
  apply k82
  refine Ao ?_
  refine Cc (fun mm ee dd ρ' σ'=>∃ (q:Nat),(a42.sees.length - q) = mm∧[] = dd∧ρ45 = ρ'∧σ = σ'∧ee 1 = (.pointer (some ⟨k2,0,none⟩))∧ee 4 = (iV ((i:Int)))∧ee 5 = (.pointer (some ⟨k44,0,none⟩))∧ee 7 = (iV ((q:Int)))∧(q ≤ a42.sees.length)∧(∀ j,j < q→Nb a42 j = 0)∧True) (m:=_) ⟨0,rfl,rfl,rfl,rfl,h56_1,h56_4,h56_5,rfl,(Nat.zero_le _),(fun j h=>absurd h (Nat.not_lt_zero _)),trivial⟩ ?_
  rintro m83 e83 _ _ _ ⟨q,rfl,rfl,rfl,rfl,h83_1,h83_4,h83_5,h83_7,p83_0,p83_1,_⟩
  refine Ai fun K84 k84=>?_
  refine w_q rfl rfl fun K85 k85=>?_
  refine Aa rfl (Ah (v:=(iV ((q:Int)))) h83_7) ?_
  refine Ak rfl (Ay FTest.f_sees Tryd.underlying108 rfl rfl Aex (by decide) h83_5 r45) fun v86 r86=>?_
  refine Ak rfl (Ax Aex rfl r86) fun v87 r87=>?_
  have g88:=Val.len r87
  refine Aa rfl (Ce (el:=53) Tryd.underlying46 rfl r87) ?_
  refine Aa rfl (Da (p:=(q:Int)) (q:=((a42.sees.length:Nat):Int)) rfl rfl) ?_
  apply Ac
  apply k85
  refine As (t:=decide ((q:Int) < ((a42.sees.length:Nat):Int))) rfl (fun b89=>?_) (fun b89=>?_)
  ·have q89:=of_decide_eq_true b89
   refine Al ?_
   apply k84
   refine Ai fun K90 k90=>?_
   refine Ao ?_
   refine w_q rfl rfl fun K91 k91=>?_
   refine Ak rfl (Ay FTest.f_sees Tryd.underlying108 rfl rfl Aex (by decide) h83_5 r45) fun v92 r92=>?_
   refine Ak rfl (Ax Aex rfl r92) fun v93 r93=>?_
   refine Aa rfl (Ah (v:=(iV ((q:Int)))) h83_7) ?_
   obtain ⟨a95,ha95⟩:=Ed (xs:=a42.sees) (i:=q) (by omega)
   refine Ak rfl (Ci q Tryd.underlying46 Ov rfl r93 (q:=(q:Int)) rfl rfl ha95) fun v94 r94=>?_
   have ⟨g96a,g96b⟩:=At.rng r94
   refine Aa rfl (Bc Ov rfl r94) ?_
   refine Aa rfl (Da (p:=a95) (q:=0) rfl rfl) ?_
   refine l_M (.bool (decide (a95 < 0))) rfl rfl ?_
   refine Cn (decide (a95 < 0)) (fun b97=>?_) (fun b97=>?_)
   ·have q97:=of_decide_eq_true b97
    refine Ap (Bl rfl rfl rfl b97) ?_
    refine Ap (Bl rfl rfl rfl b97) ?_
    refine Ap (Bl rfl rfl rfl b97) ?_
    refine Ap (Bl rfl rfl rfl b97) ?_
    refine Ap (Bl rfl rfl rfl b97) ?_
    refine Ap (Bl rfl rfl rfl b97) ?_
    refine Aa rfl (Bt rfl b97 (v:=(.bool (true))) rfl) ?_
    apply Ac
    apply k91
    refine Co rfl rfl ?_
    refine w_q rfl rfl fun K98 k98=>?_
    refine l_A (iV (1)) rfl rfl ?_
    apply Ac
    apply k98
    refine Aj (Arw (Arz l2 l45)) ?_
    refine Aq ?_
    refine hret _ _ _ ?_
    refine ⟨rfl,rfl,Eq.trans (b:=(iV (1))) rfl ?_⟩
    have hi:inR l.most 0 (l.kinds.length:Int) = true:=Ge.2 q20
    have hf:Gz l i = 1:=by
     have htw:=(testIs_none fun j hj=>p56_1 j (by omega):(Cl i (Rm l a42.name)).isSome = false)
     have hq:Nb a42 q = 1:=by simp only [Nb,ha95,b8,b17,b20,b26,b36,b50,b53,b59,b80,b89,b97,Bool.true_and,Bool.false_and,Bool.and_true,Bool.and_false,Bool.true_or,Bool.false_or,Bool.or_true,Bool.or_false,Bool.not_true,Bool.not_false]; rfl
     simp only [Gz,ha42,htw,b8,b17,b20,b26,b36,b50,b53,b59,b80,b89,b97,if_true,Bool.false_eq_true,if_false]
     rw [if_pos (by omega),Db p83_1 (by omega) hq (by omega)]
    rw [Gj,Gt q8,Jw,hi,if_pos rfl,if_neg (by omega),Db p30_1 (by omega) hf (by omega)]
   have q97:=of_decide_eq_false b97
   refine Ak (Ar rfl rfl rfl b97) (Ay FTest.f_sees Tryd.underlying108 rfl rfl Aex (by decide) h83_5 r45) fun v99 r99=>?_
   refine Ak (Ar rfl rfl rfl b97) (Ax Aex rfl r99) fun v100 r100=>?_
   refine Aa (Ar rfl rfl rfl b97) (Ah (v:=(iV ((q:Int)))) h83_7) ?_
   refine Ak (Ar rfl rfl rfl b97) (Ci q Tryd.underlying46 Ov rfl r100 (q:=(q:Int)) rfl rfl ha95) fun v101 r101=>?_
   have ⟨g102a,g102b⟩:=At.rng r101
   refine Aa (Ar rfl rfl rfl b97) (Bc Ov rfl r101) ?_
   refine Aa (Ar rfl rfl rfl b97) (Gk (p:=a95) (q:=2) rfl rfl) ?_
   refine Aa rfl (Bm rfl b97 (v:=(.bool (decide (a95 > 2)))) rfl) ?_
   apply Ac
   apply k91
   refine As (t:=decide (a95 > 2)) rfl (fun b103=>?_) (fun b103=>?_)
   ·have q103:=of_decide_eq_true b103
    refine w_q rfl rfl fun K104 k104=>?_
    refine l_A (iV (1)) rfl rfl ?_
    apply Ac
    apply k104
    refine Aj (Arw (Arz l2 l45)) ?_
    refine Aq ?_
    refine hret _ _ _ ?_
    refine ⟨rfl,rfl,Eq.trans (b:=(iV (1))) rfl ?_⟩
    have hi:inR l.most 0 (l.kinds.length:Int) = true:=Ge.2 q20
    have hf:Gz l i = 1:=by
     have htw:=(testIs_none fun j hj=>p56_1 j (by omega):(Cl i (Rm l a42.name)).isSome = false)
     have hq:Nb a42 q = 1:=by simp only [Nb,ha95,b8,b17,b20,b26,b36,b50,b53,b59,b80,b89,b97,b103,Bool.true_and,Bool.false_and,Bool.and_true,Bool.and_false,Bool.true_or,Bool.false_or,Bool.or_true,Bool.or_false,Bool.not_true,Bool.not_false]; rfl
     simp only [Gz,ha42,htw,b8,b17,b20,b26,b36,b50,b53,b59,b80,b89,b97,b103,if_true,Bool.false_eq_true,if_false]
     rw [if_pos (by omega),Db p83_1 (by omega) hq (by omega)]
    rw [Gj,Gt q8,Jw,hi,if_pos rfl,if_neg (by omega),Db p30_1 (by omega) hf (by omega)]
   have q103:=of_decide_eq_false b103
   refine Al ?_
   apply k90
   refine Ag rfl rfl ?_
   refine Aa rfl (Ah (v:=(iV ((q:Int)))) h83_7) ?_
   refine Aa rfl (Br (p:=(q:Int)) (q:=1) rfl rfl (z:=(((q + 1):Nat):Int)) (Bo (by first | rfl | omega | (push_cast; rfl)) (by omega) (by omega))) ?_
   refine l_A (iV ((((q + 1):Nat):Int))) rfl rfl ?_
   apply Ac
   refine ⟨_,?_,((q + 1)),rfl,rfl,rfl,rfl,h83_1,h83_4,h83_5,rfl,(by omega),(Ef p83_1 (by simp only [Nb,ha95,b8,b17,b20,b26,b36,b50,b53,b59,b80,b89,b97,b103,Bool.true_and,Bool.false_and,Bool.and_true,Bool.and_false,Bool.true_or,Bool.false_or,Bool.or_true,Bool.or_false,Bool.not_true,Bool.not_false]; rfl)),trivial⟩
   omega
  have q89:=of_decide_eq_false b89
  refine Bx ?_
  apply k37
  refine Ag rfl rfl ?_
  refine Aa rfl (Ah (v:=(iV ((i:Int)))) h83_4) ?_
  refine Aa rfl (Br (p:=(i:Int)) (q:=1) rfl rfl (z:=(((i + 1):Nat):Int)) (Bo (by first | rfl | omega | (push_cast; rfl)) (by omega) (by omega))) ?_
  refine l_A (iV ((((i + 1):Nat):Int))) rfl rfl ?_
  refine Bj (Arw l45) ?_
  apply Ac
  refine ⟨_,?_,((i + 1)),rfl,rfl,rfl,rfl,h83_1,rfl,(by omega),(Ef p30_1 (by
 have htw:=(testIs_none fun j hj=>p56_1 j (by omega):(Cl i (Rm l a42.name)).isSome = false)
 simp only [Gz,ha42,htw,b8,b17,b20,b26,b36,b50,b53,b59,b80,b89,if_true,Bool.false_eq_true,if_false]
 rw [if_pos (by omega),Fb fun j hj=>p83_1 j (by omega)])),trivial⟩
  omega
 have q36:=of_decide_eq_false b36
 refine Bx ?_
 apply k28
 refine w_q rfl rfl fun K105 k105=>?_
 refine l_A (iV (0)) rfl rfl ?_
 apply Ac
 apply k105
 refine Aj (Arw l2) ?_
 refine Aq ?_
 refine hret _ _ _ ?_
 refine ⟨rfl,rfl,Eq.trans (b:=(iV (0))) rfl ?_⟩
 have hi:inR l.most 0 (l.kinds.length:Int) = true:=Ge.2 q20
 rw [Gj,Gt q8,Jw,hi,if_pos rfl,if_neg (by omega),Fb fun j hj=>p30_1 j (by omega)]
set_option maxRecDepth 100000 in
theorem c_refcheckResults {mn:Bool} {X:Frame→List Frame→Ro→Own→Cy→Prop} {ρ:Ro} {σ:Own} {l:Lab} {vl vr:Value} {rs:List Found} (rl:Val ρ vl l) (rr:Val ρ vr rs):CallsH (CX mn X) 66 #[vl,vr] ρ σ (fun w ρ' σ'=>ρ' = ρ∧σ' = σ∧w = (iV (Hw l rs))):=by
 refine Bh (n:=32) (args:=[vl,vr]) [4] Tryd.func66 rfl rfl rfl rfl fun Q hret hnor=>?_
 refine w_q rfl rfl fun K1 k1=>?_
 refine Ae rfl (Eb (v:=vl) rfl fun k2=>?_)
 refine Bb (a:=l) rl fun ρ2 l2 r2=>?_
 replace rl:=Asa l2 rl
 replace rr:=Asa l2 rr
 refine l_A (iV (0)) rfl rfl ?_
 apply Ac
 apply k1
 refine Ai fun K3 k3=>?_
 refine w_q rfl rfl fun K4 k4=>?_
 refine Ak rfl (Ax Aaj rfl r2) fun v5 r5=>?_
 refine Ae rfl (Bn (vs:=[v5]) (v:=(iV (Gj l))) (c_refCheckLab r5) Tryd.func39 rfl rfl ⟨rfl,trivial⟩ ?_)
 refine l_A (iV (Gj l)) rfl rfl ?_
 apply Ac
 apply k4
 refine w_q rfl rfl fun K6 k6=>?_
 refine l_M (iV (Gj l)) rfl rfl ?_
 refine Aa rfl (Dg (p:=Gj l) (q:=0) rfl rfl) ?_
 apply Ac
 apply k6
 refine As (t:=Gj l != 0) rfl (fun b7=>?_) (fun b7=>?_)
 ·have q7:=Mb b7
  refine w_q rfl rfl fun K8 k8=>?_
  refine l_M (iV (Gj l)) rfl rfl ?_
  refine l_A (iV (Gj l)) rfl rfl ?_
  apply Ac
  apply k8
  refine Aj (Arw l2) ?_
  refine Aq ?_
  refine hret _ _ _ ?_
  refine ⟨rfl,rfl,Eq.trans (b:=(iV (Gj l))) rfl ?_⟩
  rw [Hw,Rx q7]
 have q7:=Jh b7
 refine Al ?_
 apply k3
 refine Ai fun K9 k9=>?_
 refine w_q rfl rfl fun K10 k10=>?_
 refine l_M vr rfl rfl ?_
 have g11:=Val.len rr
 refine Aa rfl (Ce (el:=43) Tryd.underlying41 rfl rr) ?_
 refine Aa rfl (Gk (p:=((rs.length:Nat):Int)) (q:=8) rfl rfl) ?_
 apply Ac
 apply k10
 refine As (t:=decide (((rs.length:Nat):Int) > 8)) rfl (fun b12=>?_) (fun b12=>?_)
 ·have q12:=of_decide_eq_true b12
  refine w_q rfl rfl fun K13 k13=>?_
  refine l_A (iV (2)) rfl rfl ?_
  apply Ac
  apply k13
  refine Aj (Arw l2) ?_
  refine Aq ?_
  refine hret _ _ _ ?_
  refine ⟨rfl,rfl,Eq.trans (b:=(iV (2))) rfl ?_⟩
  rw [Hw,Gt q7,if_pos (by omega)]
 have q12:=of_decide_eq_false b12
 refine Al ?_
 apply k9
 refine Ai fun K14 k14=>?_
 refine w_q rfl rfl fun K15 k15=>?_
 refine l_A (iV (0)) rfl rfl ?_
 apply Ac
 apply k15
 refine Ao ?_
 refine Cc (fun mm ee dd ρ' σ'=>∃ (i:Nat),(rs.length - i) = mm∧[] = dd∧ρ2 = ρ'∧σ = σ'∧ee 1 = vr∧ee 2 = (.pointer (some ⟨k2,0,none⟩))∧ee 6 = (iV ((i:Int)))∧(i ≤ rs.length)∧(∀ j,j < i→Vw l rs j = 0)∧True) (m:=_) ⟨0,rfl,rfl,rfl,rfl,rfl,rfl,rfl,(Nat.zero_le _),(fun j h=>absurd h (Nat.not_lt_zero _)),trivial⟩ ?_
 rintro m16 e16 _ _ _ ⟨i,rfl,rfl,rfl,rfl,h16_1,h16_2,h16_6,p16_0,p16_1,_⟩
 refine Ai fun K17 k17=>?_
 refine w_q rfl rfl fun K18 k18=>?_
 refine Aa rfl (Ah (v:=(iV ((i:Int)))) h16_6) ?_
 refine Aa rfl (Ah (v:=vr) h16_1) ?_
 have g19:=Val.len rr
 refine Aa rfl (Ce (el:=43) Tryd.underlying41 rfl rr) ?_
 refine Aa rfl (Da (p:=(i:Int)) (q:=((rs.length:Nat):Int)) rfl rfl) ?_
 apply Ac
 apply k18
 refine As (t:=decide ((i:Int) < ((rs.length:Nat):Int))) rfl (fun b20=>?_) (fun b20=>?_)
 ·have q20:=of_decide_eq_true b20
  refine Al ?_
  apply k17
  refine Ai fun K21 k21=>?_
  refine Ao ?_
  refine Ai fun K22 k22=>?_
  refine Dc [0,1,2,3,4,5,6,7,8,9,10] (by kernel_rfl) rfl rfl ?_
  refine Be (i:=0) [o1,o0,o0,o0,o0,o0,o0,o0,o0,o0,o0] rfl (by kernel_rfl) rfl Ary rfl (Ah (v:=vr) h16_1) ?_
  refine Be (i:=1) [o1,o1,o0,o0,o0,o0,o0,o0,o0,o0,o0] rfl (by kernel_rfl) rfl Ary rfl (Ah (v:=(iV ((i:Int)))) h16_6) ?_
  obtain ⟨a24,ha24⟩:=Ed (xs:=rs) (i:=i) (by omega)
  refine Cd (i:=2) [o1,o1,o1,o0,o0,o0,o0,o0,o0,o0,o0] rfl (by kernel_rfl) rfl Ary rfl (Ci i Tryd.underlying41 Aax rfl rr (q:=(i:Int)) rfl rfl ha24) fun v23 r23=>?_
  refine Cd (i:=3) [o1,o1,o1,o1,o0,o0,o0,o0,o0,o0,o0] rfl (by kernel_rfl) rfl Ary rfl (Ay Found.f_test Tryd.underlying43 rfl rfl ty3 (by decide) rfl r23) fun v25 r25=>?_
  have ⟨g26a,g26b⟩:=At.rng r25
  refine Be (i:=4) [o1,o1,o1,o1,o1,o0,o0,o0,o0,o0,o0] rfl (by kernel_rfl) rfl Ary rfl (Bc ty3 rfl r25) ?_
  refine Hl (i:=5) Apb rfl (by kernel_rfl) rfl Ary rfl (Ay Lab.f_tests Tryd.underlying40 rfl rfl Vd (by decide) h16_2 r2) fun v27 r27=>?_
  refine Hl (i:=6) zZ2 rfl (by kernel_rfl) rfl Ary rfl (Ax Vd rfl r27) fun v28 r28=>?_
  have g29:=Val.len r28
  refine Bg (i:=7) zZ3 rfl (by kernel_rfl) rfl Ary rfl (Ce (el:=108) Tryd.underlying38 rfl r28) ?_
  refine Bg (i:=8) zZ4 rfl (by kernel_rfl) rfl Ary rfl (Oq (p:=((l.tests.length:Nat):Int)) (q:=1) rfl rfl (z:=(((l.tests.length:Nat):Int) - 1)) (Bo (by first | rfl | omega | (push_cast; rfl)) (by omega) (by omega))) ?_
  refine Dj (i:=9) zZ5 rfl (by kernel_rfl) rfl rfl (Bn (vs:=[(iV (a24.test)),(iV (0)),(iV ((((l.tests.length:Nat):Int) - 1)))]) (v:=(.bool (inR a24.test 0 ((((l.tests.length:Nat):Int) - 1))))) (c_In) Tryd.func79 rfl rfl ⟨rfl,rfl,rfl,trivial⟩ ⟨Ary,?_⟩)
  refine Bg (i:=10) zZ6 rfl (by kernel_rfl) rfl Ary rfl (Ix (k:=inR a24.test 0 ((((l.tests.length:Nat):Int) - 1))) rfl) ?_
  refine Ec rfl ?_
  apply k22
  refine As (t:=!(inR a24.test 0 ((((l.tests.length:Nat):Int) - 1)))) rfl (fun b30=>?_) (fun b30=>?_)
  ·have b31:=not_eq_t b30
   have q31:=Ui.1 b31
   refine w_q rfl rfl fun K32 k32=>?_
   refine l_A (iV (6)) rfl rfl ?_
   apply Ac
   apply k32
   refine Aj (Arw l2) ?_
   refine Aq ?_
   refine hret _ _ _ ?_
   refine ⟨rfl,rfl,Eq.trans (b:=(iV (6))) rfl ?_⟩
   have hf:Vw l rs i = 6:=by simp [Vw,ha24,b7,b12,b20,b30,b31]
   rw [Hw,Gt q7,if_neg (by omega),Db p16_1 (by omega) hf (by omega)]
  have b33:=not_eq_f b30
  have q33:=Ge.1 b33
  refine Al ?_
  apply k21
  refine Ag rfl rfl ?_
  refine Aa rfl (Ah (v:=(iV ((i:Int)))) h16_6) ?_
  refine Aa rfl (Br (p:=(i:Int)) (q:=1) rfl rfl (z:=(((i + 1):Nat):Int)) (Bo (by first | rfl | omega | (push_cast; rfl)) (by omega) (by omega))) ?_
  refine l_A (iV ((((i + 1):Nat):Int))) rfl rfl ?_
  apply Ac
  refine ⟨_,?_,((i + 1)),rfl,rfl,rfl,rfl,h16_1,h16_2,rfl,(by omega),(Ef p16_1 (by simp [Vw,ha24,b7,b12,b20,b30,b33])),trivial⟩
  omega
 have q20:=of_decide_eq_false b20
 refine Bx ?_
 apply k14
 refine w_q rfl rfl fun K34 k34=>?_
 refine l_A (iV (0)) rfl rfl ?_
 apply Ac
 apply k34
 refine Aj (Arw l2) ?_
 refine Aq ?_
 refine hret _ _ _ ?_
 refine ⟨rfl,rfl,Eq.trans (b:=(iV (0))) rfl ?_⟩
 rw [Hw,Gt q7,if_neg (by omega),Fb fun j hj=>p16_1 j (by omega)]
end Go.Proofs.YtoefdnbaklajeaaDoor

namespace Go.Proofs.YtoefdnbaklajeaaDoor
open Go
theorem pop8_all:(List.range 256).all (fun x=>De x == x % 2 + De (x / 2)) = true:=by decide +kernel
theorem pop8_step {x:Nat} (h:x < 256):De x = x % 2 + De (x / 2):=by
  have:=List.all_eq_true.1 pop8_all x (by simpa using h)
  simpa using this
theorem pop8_0:De 0 = 0:=by decide
theorem any_succ {p:Nat→Bool} {i:Nat}:(List.range (i + 1)).any p = ((List.range i).any p || p i):=by
  rw [List.range_succ,List.any_append]; simp
end Go.Proofs.YtoefdnbaklajeaaDoor

namespace Go.Proofs.YtoefdnbaklajeaaDoor
open Go
set_option maxRecDepth 100000 in
theorem c_size {mn:Bool} {X:Frame→List Frame→Ro→Own→Cy→Prop} {ρ:Ro} {σ:Own} {s:Nat} (hs:s < 256):CallsH (CX mn X) 99 #[(iV ((s:Int)))] ρ σ (fun w ρ' σ'=>ρ' = ρ∧σ' = σ∧w = (iV (((De s:Nat):Int)))):=by
 refine Bh (n:=13) (args:=[(iV ((s:Int)))]) [2] Tryd.func99 rfl rfl rfl rfl fun Q hret hnor=>?_
 refine w_q rfl rfl fun K1 k1=>?_
 refine l_A (iV (0)) rfl rfl ?_
 apply Ac
 apply k1
 refine w_q rfl rfl fun K2 k2=>?_
 refine l_A (iV (0)) rfl rfl ?_
 apply Ac
 apply k2
 refine Ai fun K3 k3=>?_
 refine Ao ?_
 refine Cc (fun mm ee dd ρ' σ'=>∃ (x:Nat) (c:Nat),(x) = mm∧[] = dd∧ρ = ρ'∧σ = σ'∧ee 0 = (iV ((x:Int)))∧ee 3 = (iV ((c:Int)))∧(c + x ≤ s)∧(c + De x = De s)∧True) (m:=_) ⟨s,0,rfl,rfl,rfl,rfl,rfl,rfl,(by omega),(Nat.zero_add _),trivial⟩ ?_
 rintro m4 e4 _ _ _ ⟨x,c,rfl,rfl,rfl,rfl,h4_0,h4_3,p4_0,p4_1,_⟩
 refine Ai fun K5 k5=>?_
 refine w_q rfl rfl fun K6 k6=>?_
 refine Aa rfl (Ah (v:=(iV ((x:Int)))) h4_0) ?_
 refine Aa rfl (Gk (p:=(x:Int)) (q:=0) rfl rfl) ?_
 apply Ac
 apply k6
 refine As (t:=decide ((x:Int) > 0)) rfl (fun b7=>?_) (fun b7=>?_)
 ·have q7:=of_decide_eq_true b7
  refine Al ?_
  apply k5
  refine Ao ?_
  refine w_q rfl rfl fun K8 k8=>?_
  refine Aa rfl (Ah (v:=(iV ((c:Int)))) h4_3) ?_
  refine Aa rfl (Ah (v:=(iV ((x:Int)))) h4_0) ?_
  refine Aa rfl (y_rem (p:=(x:Int)) (q:=2) rfl rfl (by omega) (z:=(((x % 2):Nat):Int)) rfl) ?_
  refine Aa rfl (Br (p:=(c:Int)) (q:=(((x % 2):Nat):Int)) rfl rfl (z:=(((c + (x % 2)):Nat):Int)) (Bo (by first | rfl | omega | (push_cast; rfl)) (by omega) (by omega))) ?_
  refine l_A (iV ((((c + (x % 2)):Nat):Int))) rfl rfl ?_
  apply Ac
  apply k8
  refine Ag rfl rfl ?_
  refine Aa rfl (Ah (v:=(iV ((x:Int)))) h4_0) ?_
  refine Aa rfl (y_quo (p:=(x:Int)) (q:=2) rfl rfl (by omega) (z:=(((x / 2):Nat):Int)) (Bo rfl (by omega) (by omega))) ?_
  refine l_A (iV ((((x / 2):Nat):Int))) rfl rfl ?_
  apply Ac
  refine ⟨_,?_,((x / 2)),((c + (x % 2))),rfl,rfl,rfl,rfl,rfl,rfl,(by omega),(by rw [← p4_1,pop8_step (x:=x) (by omega)]; omega),trivial⟩
  omega
 have q7:=of_decide_eq_false b7
 refine Bx ?_
 apply k3
 refine w_q rfl rfl fun K9 k9=>?_
 refine Aa rfl (Ah (v:=(iV ((c:Int)))) h4_3) ?_
 refine l_A (iV ((c:Int))) rfl rfl ?_
 apply Ac
 apply k9
 refine Aq ?_
 refine hret _ _ _ ?_
 refine ⟨rfl,rfl,Eq.trans (b:=(iV ((c:Int)))) rfl ?_⟩
 have hx:x = 0:=by omega
 subst hx
 rw [← p4_1,pop8_0,Nat.add_zero]
set_option maxRecDepth 100000 in
theorem c_Can {mn:Bool} {X:Frame→List Frame→Ro→Own→Cy→Prop} {ρ:Ro} {σ:Own} {t:FTest} {vt:Value} {s:Nat} {found:Bool} (rt:Val ρ vt t) (hs:s < 65536):CallsH (CX mn X) 107 #[vt,(iV ((s:Int))),(.bool (found))] ρ σ (fun w ρ' σ'=>ρ' = ρ∧σ' = σ∧w = (.bool (Afm t s found))):=by
 refine Bh (n:=46) (args:=[vt,(iV ((s:Int))),(.bool (found))]) [6] Tryd.func107 rfl rfl rfl rfl fun Q hret hnor=>?_
 refine w_q rfl rfl fun K1 k1=>?_
 refine Ae rfl (Eb (v:=vt) rfl fun k2=>?_)
 refine Bb (a:=t) rt fun ρ2 l2 r2=>?_
 replace rt:=Asa l2 rt
 refine l_A (.bool (false)) rfl rfl ?_
 apply Ac
 apply k1
 refine w_q rfl rfl fun K3 k3=>?_
 refine Ak rfl (Ay FTest.f_errs Tryd.underlying108 rfl rfl ty4 (by decide) rfl r2) fun v4 r4=>?_
 refine Aa rfl (Nw ty4 rfl r4) ?_
 refine l_A (.bool (t.errs)) rfl rfl ?_
 refine l_A (.bool (false)) rfl rfl ?_
 apply Ac
 apply k3
 refine Ai fun K6 k6=>?_
 refine w_q rfl rfl fun K7 k7=>?_
 refine l_A (iV (0)) rfl rfl ?_
 apply Ac
 apply k7
 refine Ao ?_
 refine Cc (fun mm ee dd ρ' σ'=>∃ (i:Nat) (so:Bool) (su:Bool),(t.sees.length - i) = mm∧[] = dd∧ρ2 = ρ'∧σ = σ'∧ee 1 = (iV ((s:Int)))∧ee 2 = (.bool (found))∧ee 3 = (.pointer (some ⟨k2,0,none⟩))∧ee 7 = (.bool (so))∧ee 8 = (.bool (su))∧ee 9 = (iV ((i:Int)))∧(i ≤ t.sees.length)∧(so = (t.errs || (List.range i).any (Ahz t s)))∧(su = (List.range i).any (Akd t s))∧True) (m:=_) ⟨0,t.errs,false,rfl,rfl,rfl,rfl,rfl,rfl,rfl,rfl,rfl,rfl,(Nat.zero_le _),(by simp),(by simp),trivial⟩ ?_
 rintro m8 e8 _ _ _ ⟨i,so,su,rfl,rfl,rfl,rfl,h8_1,h8_2,h8_3,h8_7,h8_8,h8_9,p8_0,p8_1,p8_2,_⟩
 refine Ai fun K9 k9=>?_
 refine w_q rfl rfl fun K10 k10=>?_
 refine Aa rfl (Ah (v:=(iV ((i:Int)))) h8_9) ?_
 refine Ak rfl (Ay FTest.f_sees Tryd.underlying108 rfl rfl Aex (by decide) h8_3 r2) fun v11 r11=>?_
 refine Ak rfl (Ax Aex rfl r11) fun v12 r12=>?_
 have g13:=Val.len r12
 refine Aa rfl (Ce (el:=53) Tryd.underlying46 rfl r12) ?_
 refine Aa rfl (Da (p:=(i:Int)) (q:=((t.sees.length:Nat):Int)) rfl rfl) ?_
 apply Ac
 apply k10
 refine As (t:=decide ((i:Int) < ((t.sees.length:Nat):Int))) rfl (fun b14=>?_) (fun b14=>?_)
 ·have q14:=of_decide_eq_true b14
  refine Al ?_
  apply k9
  refine Ai fun K15 k15=>?_
  refine Ao ?_
  refine w_q rfl rfl fun K16 k16=>?_
  refine Aa rfl (Ah (v:=(iV ((s:Int)))) h8_1) ?_
  refine Aa rfl (Ah (v:=(iV ((i:Int)))) h8_9) ?_
  refine Aa rfl (Jq (p:=s) (q:=i) rfl rfl rfl (by omega)) ?_
  refine Aa rfl (y_rem (p:=(((s >>> i):Nat):Int)) (q:=2) rfl rfl (by omega) (z:=((((s >>> i) % 2):Nat):Int)) rfl) ?_
  refine Aa rfl (Ek (p:=((((s >>> i) % 2):Nat):Int)) (q:=1) rfl rfl) ?_
  apply Ac
  apply k16
  refine As (t:=((((s >>> i) % 2):Nat):Int) == 1) rfl (fun b17=>?_) (fun b17=>?_)
  ·have q17:=Jo b17
   refine w_q rfl rfl fun K18 k18=>?_
   refine Aa rfl (Ah (v:=(.bool (so))) h8_7) ?_
   refine l_M (.bool (so)) rfl rfl ?_
   refine Cn (so) (fun b19=>?_) (fun b19=>?_)
   ·refine Ap (Bl rfl rfl rfl b19) ?_
    refine Ap (Bl rfl rfl rfl b19) ?_
    refine Ap (Bl rfl rfl rfl b19) ?_
    refine Ap (Bl rfl rfl rfl b19) ?_
    refine Ap (Bl rfl rfl rfl b19) ?_
    refine Ap (Bl rfl rfl rfl b19) ?_
    refine Aa rfl (Bt rfl b19 (v:=(.bool (true))) rfl) ?_
    refine l_A (.bool (true)) rfl rfl ?_
    apply Ac
    apply k18
    refine Ag rfl rfl ?_
    refine Aa rfl (Ah (v:=(.bool (su))) h8_8) ?_
    refine l_M (.bool (su)) rfl rfl ?_
    refine Cn (su) (fun b20=>?_) (fun b20=>?_)
    ·refine Ap (Bl rfl rfl rfl b20) ?_
     refine Ap (Bl rfl rfl rfl b20) ?_
     refine Ap (Bl rfl rfl rfl b20) ?_
     refine Ap (Bl rfl rfl rfl b20) ?_
     refine Ap (Bl rfl rfl rfl b20) ?_
     refine Ap (Bl rfl rfl rfl b20) ?_
     refine Aa rfl (Bt rfl b20 (v:=(.bool (true))) rfl) ?_
     refine l_A (.bool (true)) rfl rfl ?_
     apply Ac
     apply k15
     refine Ag rfl rfl ?_
     refine Aa rfl (Ah (v:=(iV ((i:Int)))) h8_9) ?_
     refine Aa rfl (Br (p:=(i:Int)) (q:=1) rfl rfl (z:=(((i + 1):Nat):Int)) (Bo (by first | rfl | omega | (push_cast; rfl)) (by omega) (by omega))) ?_
     refine l_A (iV ((((i + 1):Nat):Int))) rfl rfl ?_
     apply Ac
     refine ⟨_,?_,((i + 1)),(true),(true),rfl,rfl,rfl,rfl,h8_1,h8_2,h8_3,rfl,rfl,rfl,(by omega),(by rw [any_succ,← Bool.or_assoc,← p8_1]; simp [Ahz,Aql b17,b14,b17,b19,b20]),(by rw [any_succ,← p8_2]; simp [Akd,Aql b17,b14,b17,b19,b20]),trivial⟩
     omega
    refine Ak (Ar rfl rfl rfl b20) (Ay FTest.f_sees Tryd.underlying108 rfl rfl Aex (by decide) h8_3 r2) fun v21 r21=>?_
    refine Ak (Ar rfl rfl rfl b20) (Ax Aex rfl r21) fun v22 r22=>?_
    refine Aa (Ar rfl rfl rfl b20) (Ah (v:=(iV ((i:Int)))) h8_9) ?_
    obtain ⟨a24,ha24⟩:=Ed (xs:=t.sees) (i:=i) (by omega)
    refine Ak (Ar rfl rfl rfl b20) (Ci i Tryd.underlying46 Ov rfl r22 (q:=(i:Int)) rfl rfl ha24) fun v23 r23=>?_
    have ⟨g25a,g25b⟩:=At.rng r23
    refine Aa (Ar rfl rfl rfl b20) (Bc Ov rfl r23) ?_
    refine Aa (Ar rfl rfl rfl b20) (Ek (p:=a24) (q:=1) rfl rfl) ?_
    refine Aa rfl (Bm rfl b20 (v:=(.bool (a24 == 1))) rfl) ?_
    refine l_A (.bool (a24 == 1)) rfl rfl ?_
    apply Ac
    apply k15
    refine Ag rfl rfl ?_
    refine Aa rfl (Ah (v:=(iV ((i:Int)))) h8_9) ?_
    refine Aa rfl (Br (p:=(i:Int)) (q:=1) rfl rfl (z:=(((i + 1):Nat):Int)) (Bo (by first | rfl | omega | (push_cast; rfl)) (by omega) (by omega))) ?_
    refine l_A (iV ((((i + 1):Nat):Int))) rfl rfl ?_
    apply Ac
    refine ⟨_,?_,((i + 1)),(true),(a24 == 1),rfl,rfl,rfl,rfl,h8_1,h8_2,h8_3,rfl,rfl,rfl,(by omega),(by rw [any_succ,← Bool.or_assoc,← p8_1]; simp [Ahz,Aql b17,b14,b17,b19,b20,ha24]),(by rw [any_succ,← p8_2]; simp [Akd,Aql b17,b14,b17,b19,b20,ha24]),trivial⟩
    omega
   refine Ak (Ar rfl rfl rfl b19) (Ay FTest.f_sees Tryd.underlying108 rfl rfl Aex (by decide) h8_3 r2) fun v26 r26=>?_
   refine Ak (Ar rfl rfl rfl b19) (Ax Aex rfl r26) fun v27 r27=>?_
   refine Aa (Ar rfl rfl rfl b19) (Ah (v:=(iV ((i:Int)))) h8_9) ?_
   obtain ⟨a29,ha29⟩:=Ed (xs:=t.sees) (i:=i) (by omega)
   refine Ak (Ar rfl rfl rfl b19) (Ci i Tryd.underlying46 Ov rfl r27 (q:=(i:Int)) rfl rfl ha29) fun v28 r28=>?_
   have ⟨g30a,g30b⟩:=At.rng r28
   refine Aa (Ar rfl rfl rfl b19) (Bc Ov rfl r28) ?_
   refine Aa (Ar rfl rfl rfl b19) (Dg (p:=a29) (q:=2) rfl rfl) ?_
   refine Aa rfl (Bm rfl b19 (v:=(.bool (a29 != 2))) rfl) ?_
   refine l_A (.bool (a29 != 2)) rfl rfl ?_
   apply Ac
   apply k18
   refine Ag rfl rfl ?_
   refine Aa rfl (Ah (v:=(.bool (su))) h8_8) ?_
   refine l_M (.bool (su)) rfl rfl ?_
   refine Cn (su) (fun b31=>?_) (fun b31=>?_)
   ·refine Ap (Bl rfl rfl rfl b31) ?_
    refine Ap (Bl rfl rfl rfl b31) ?_
    refine Ap (Bl rfl rfl rfl b31) ?_
    refine Ap (Bl rfl rfl rfl b31) ?_
    refine Ap (Bl rfl rfl rfl b31) ?_
    refine Ap (Bl rfl rfl rfl b31) ?_
    refine Aa rfl (Bt rfl b31 (v:=(.bool (true))) rfl) ?_
    refine l_A (.bool (true)) rfl rfl ?_
    apply Ac
    apply k15
    refine Ag rfl rfl ?_
    refine Aa rfl (Ah (v:=(iV ((i:Int)))) h8_9) ?_
    refine Aa rfl (Br (p:=(i:Int)) (q:=1) rfl rfl (z:=(((i + 1):Nat):Int)) (Bo (by first | rfl | omega | (push_cast; rfl)) (by omega) (by omega))) ?_
    refine l_A (iV ((((i + 1):Nat):Int))) rfl rfl ?_
    apply Ac
    refine ⟨_,?_,((i + 1)),(a29 != 2),(true),rfl,rfl,rfl,rfl,h8_1,h8_2,h8_3,rfl,rfl,rfl,(by omega),(by rw [any_succ,← Bool.or_assoc,← p8_1]; simp [Ahz,Aql b17,b14,b17,b19,b31,ha29]),(by rw [any_succ,← p8_2]; simp [Akd,Aql b17,b14,b17,b19,b31,ha29]),trivial⟩
    omega
   refine Ak (Ar rfl rfl rfl b31) (Ay FTest.f_sees Tryd.underlying108 rfl rfl Aex (by decide) h8_3 r2) fun v32 r32=>?_
   refine Ak (Ar rfl rfl rfl b31) (Ax Aex rfl r32) fun v33 r33=>?_
   refine Aa (Ar rfl rfl rfl b31) (Ah (v:=(iV ((i:Int)))) h8_9) ?_
   refine Ak (Ar rfl rfl rfl b31) (Ci i Tryd.underlying46 Ov rfl r33 (q:=(i:Int)) rfl rfl ha29) fun v34 r34=>?_
   have ⟨g35a,g35b⟩:=At.rng r34
   refine Aa (Ar rfl rfl rfl b31) (Bc Ov rfl r34) ?_
   refine Aa (Ar rfl rfl rfl b31) (Ek (p:=a29) (q:=1) rfl rfl) ?_
   refine Aa rfl (Bm rfl b31 (v:=(.bool (a29 == 1))) rfl) ?_
   refine l_A (.bool (a29 == 1)) rfl rfl ?_
   apply Ac
   apply k15
   refine Ag rfl rfl ?_
   refine Aa rfl (Ah (v:=(iV ((i:Int)))) h8_9) ?_
   refine Aa rfl (Br (p:=(i:Int)) (q:=1) rfl rfl (z:=(((i + 1):Nat):Int)) (Bo (by first | rfl | omega | (push_cast; rfl)) (by omega) (by omega))) ?_
   refine l_A (iV ((((i + 1):Nat):Int))) rfl rfl ?_
   apply Ac
   refine ⟨_,?_,((i + 1)),(a29 != 2),(a29 == 1),rfl,rfl,rfl,rfl,h8_1,h8_2,h8_3,rfl,rfl,rfl,(by omega),(by rw [any_succ,← Bool.or_assoc,← p8_1]; simp [Ahz,Aql b17,b14,b17,b19,b31,ha29]),(by rw [any_succ,← p8_2]; simp [Akd,Aql b17,b14,b17,b19,b31,ha29]),trivial⟩
   omega
  have q17:=La b17
  refine Al ?_
  apply k15
  refine Ag rfl rfl ?_
  refine Aa rfl (Ah (v:=(iV ((i:Int)))) h8_9) ?_
  refine Aa rfl (Br (p:=(i:Int)) (q:=1) rfl rfl (z:=(((i + 1):Nat):Int)) (Bo (by first | rfl | omega | (push_cast; rfl)) (by omega) (by omega))) ?_
  refine l_A (iV ((((i + 1):Nat):Int))) rfl rfl ?_
  apply Ac
  refine ⟨_,?_,((i + 1)),(so),(su),rfl,rfl,rfl,rfl,h8_1,h8_2,h8_3,h8_7,h8_8,rfl,(by omega),(by rw [any_succ,← Bool.or_assoc,← p8_1]; simp [Ahz,Aqp b17,b14,b17]),(by rw [any_succ,← p8_2]; simp [Akd,Aqp b17,b14,b17]),trivial⟩
  omega
 have q14:=of_decide_eq_false b14
 refine Bx ?_
 apply k6
 refine Ai fun K36 k36=>?_
 refine w_q rfl rfl fun K37 k37=>?_
 refine Aa rfl (Ah (v:=(.bool (found))) h8_2) ?_
 apply Ac
 apply k37
 refine As (t:=found) rfl (fun b38=>?_) (fun b38=>?_)
 ·refine w_q rfl rfl fun K39 k39=>?_
  refine Aa rfl (Ah (v:=(.bool (so))) h8_7) ?_
  refine l_A (.bool (so)) rfl rfl ?_
  apply Ac
  apply k39
  refine Aj (Arw l2) ?_
  refine Aq ?_
  refine hret _ _ _ ?_
  refine ⟨rfl,rfl,Eq.trans (b:=(.bool (so))) rfl ?_⟩
  have hi:i = t.sees.length:=by omega
  subst hi
  simp only [Afm,b14,b38,if_true,Bool.false_eq_true,if_false,p8_1,p8_2]
 refine Al ?_
 apply k36
 refine w_q rfl rfl fun K40 k40=>?_
 refine Aa rfl (Ah (v:=(.bool (su))) h8_8) ?_
 refine Aa rfl (Ix (k:=su) rfl) ?_
 refine l_A (.bool (!(su))) rfl rfl ?_
 apply Ac
 apply k40
 refine Aj (Arw l2) ?_
 refine Aq ?_
 refine hret _ _ _ ?_
 refine ⟨rfl,rfl,Eq.trans (b:=(.bool (!(su)))) rfl ?_⟩
 have hi:i = t.sees.length:=by omega
 subst hi
 simp only [Afm,b14,b38,if_true,Bool.false_eq_true,if_false,p8_1,p8_2]
end Go.Proofs.YtoefdnbaklajeaaDoor

namespace Go.Proofs.YtoefdnbaklajeaaDoor
open Go
theorem ints_filter_succ {p:Nat→Bool} {i:Nat}:Bw ((List.range (i + 1)).filter p) = Bw ((List.range i).filter p) ++ (if p i then [(i:Int)] else []):=by
  unfold Bw
  rw [List.range_succ,List.filter_append,List.map_append]
  congr 1
  cases h:p i <;> simp [List.filter,h]
theorem ints_take_succ {p:Nat→Bool} {l:List Nat} {i a:Nat} (h:l[i]? = some a):Bw ((l.take (i + 1)).filter p) = Bw ((l.take i).filter p) ++ (if p a then [(a:Int)] else []):=by
  unfold Bw
  rw [List.take_add_one,h,List.filter_append,List.map_append]
  congr 1
  cases h:p a <;> simp [List.filter,h]
end Go.Proofs.YtoefdnbaklajeaaDoor

namespace Go.Proofs.YtoefdnbaklajeaaDoor
open Go
set_option maxRecDepth 100000 in
theorem c_refSets {mn:Bool} {X:Frame→List Frame→Ro→Own→Cy→Prop} {ρ:Ro} {σ:Own} {l:Lab} {vl:Value} (rl:Val ρ vl l) (ok:LabOk l):CallsH (CX mn X) 101 #[vl] ρ σ (fun w ρ' σ'=>Ro.le ρ ρ'∧σ' = σ∧Val ρ' w (Bw (Hk l):List Int)):=by
 have hk:=ok.n4
 have hsm:=Rj hk
 refine Bh (n:=23) (args:=[vl]) [2] Tryd.func101 rfl rfl rfl rfl fun Q hret hnor=>?_
 refine w_q rfl rfl fun K1 k1=>?_
 refine Ae rfl (Eb (v:=vl) rfl fun k2=>?_)
 refine Bb (a:=l) rl fun ρ2 l2 r2=>?_
 replace rl:=Asa l2 rl
 refine l_A (.slice none 0 0) rfl rfl ?_
 apply Ac
 apply k1
 refine w_q rfl rfl fun K3 k3=>?_
 refine l_A (.slice none 0 0) rfl rfl ?_
 apply Ac
 apply k3
 refine Ai fun K4 k4=>?_
 refine w_q rfl rfl fun K5 k5=>?_
 refine l_A (iV (0)) rfl rfl ?_
 apply Ac
 apply k5
 refine Ao ?_
 refine Cc (fun mm ee dd ρ' σ'=>∃ (i:Nat) (ov6_3:Value) (og6_3:Own),(1 <<< l.kinds.length - i) = mm∧[] = dd∧Ro.le ρ2 ρ'∧(og6_3 ++ σ) = σ'∧ee 1 = (.pointer (some ⟨k2,0,none⟩))∧ee 3 = ov6_3∧ee 4 = (iV ((i:Int)))∧(i ≤ 1 <<< l.kinds.length)∧Grow ρ' 3 ov6_3 (Bw ((List.range i).filter (Adf l))) og6_3∧True) (m:=_) ⟨0,(.slice none 0 0),[],rfl,rfl,Ary,rfl,rfl,rfl,rfl,(Nat.zero_le _),Hn,trivial⟩ ?_
 rintro m6 e6 _ ρ6 _ ⟨i,ov6_3,og6_3,rfl,rfl,l6,rfl,h6_1,h6_3,h6_4,p6_0,OG6_3,_⟩
 replace r2:=Arv l6 r2
 refine Ai fun K7 k7=>?_
 refine w_q rfl rfl fun K8 k8=>?_
 refine Aa rfl (Ah (v:=(iV ((i:Int)))) h6_4) ?_
 refine Ak rfl (Ay Lab.f_kinds Tryd.underlying40 rfl rfl Hu (by decide) h6_1 r2) fun v9 r9=>?_
 refine Ak rfl (Ax Hu rfl r9) fun v10 r10=>?_
 have g11:=Val.len r10
 refine Aa rfl (Ce (el:=9) Tryd.underlying22 rfl r10) ?_
 refine Aa rfl (Ly (p:=1) (q:=l.kinds.length) rfl rfl rfl (by omega) (z:=(((1 <<< l.kinds.length):Nat):Int)) (Bo rfl (by omega) (by omega))) ?_
 refine Aa rfl (Da (p:=(i:Int)) (q:=(((1 <<< l.kinds.length):Nat):Int)) rfl rfl) ?_
 apply Ac
 apply k8
 refine As (t:=decide ((i:Int) < (((1 <<< l.kinds.length):Nat):Int))) rfl (fun b12=>?_) (fun b12=>?_)
 ·have q12:=of_decide_eq_true b12
  refine Al ?_
  apply k7
  refine Ai fun K13 k13=>?_
  refine Ao ?_
  refine Ai fun K14 k14=>?_
  refine Dc [0,1,2,3,4] (by kernel_rfl) rfl rfl ?_
  refine Be (i:=0) [o1,o0,o0,o0,o0] rfl (by kernel_rfl) rfl Ary rfl (Ah (v:=(iV ((i:Int)))) h6_4) ?_
  refine Cd (i:=2) [o1,o0,o1,o0,o0] rfl (by kernel_rfl) rfl Ary rfl (Ay Lab.f_most Tryd.underlying40 rfl rfl ty3 (by decide) h6_1 r2) fun v15 r15=>?_
  have ⟨g16a,g16b⟩:=At.rng r15
  refine Be (i:=3) [o1,o0,o1,o1,o0] rfl (by kernel_rfl) rfl Ary rfl (Bc ty3 rfl r15) ?_
  refine Dj (i:=1) [o1,o1,o1,o1,o0] rfl (by kernel_rfl) rfl rfl (Bn (vs:=[(iV ((i:Int)))]) (v:=(iV (((De i:Nat):Int)))) (c_size (by omega)) Tryd.func99 rfl rfl ⟨rfl,trivial⟩ ⟨Ary,?_⟩)
  refine Bg (i:=4) [o1,o1,o1,o1,o1] rfl (by kernel_rfl) rfl Ary rfl (Tx (p:=((De i:Nat):Int)) (q:=l.most) rfl rfl) ?_
  refine Ec rfl ?_
  apply k14
  refine As (t:=decide (((De i:Nat):Int) ≤ l.most)) rfl (fun b17=>?_) (fun b17=>?_)
  ·have q17:=of_decide_eq_true b17
   refine Ag rfl rfl ?_
   refine Aa rfl (Ah (v:=ov6_3) h6_3) ?_
   refine Aa rfl (Ah (v:=(iV ((i:Int)))) h6_4) ?_
   refine Ae rfl (Bi (α:=Int) (xs:=[(i:Int)]) (vs:=[(iV ((i:Int)))]) Tryd.underlying30 ty3 zr3 rfl (by decide) (Dl (os:=[.tmp 19]) ⟨rfl,trivial⟩) ⟨(Cv.2 ⟨rfl,by constructor <;> omega⟩),trivial⟩ rfl (by decide) fun k18 cs18 R18=>?_)
   have G18:Grow ρ6 3 (.slice (some ⟨k18,0,none⟩) 1 1) ([(i:Int)]:List Int) [(k18,.obj (.cells cs18.toArray 3 (0,0)))]:=Bs R18 rfl (by decide)
   refine Ca G18 fun ρ20 l20 r20=>?_
   replace r2:=Arv l20 r2
   replace OG6_3:=Grow.mono l20 OG6_3
   refine Ae rfl (Fx (σ:=σ) (gr:=og6_3) (xs:=Bw ((List.range i).filter (Adf l))) (ys:=([(i:Int)]:List Int)) Tryd.underlying30 Tryd.underlying30 (Ab Tryd.typeInfo3) rfl (Nat.le_of_ble_eq_true rfl) rfl rfl rfl rfl OG6_3 r20 (by have h1:=List.length_filter_le (Adf l) (List.range i); simp only [Fe,List.length_append,List.length_cons,List.length_nil,List.length_range,List.length_take] at *; omega) fun v19 gr19 G19=>?_)
   refine l_A v19 rfl rfl ?_
   apply Ac
   apply k13
   refine Ag rfl rfl ?_
   refine Aa rfl (Ah (v:=(iV ((i:Int)))) h6_4) ?_
   refine Aa rfl (Br (p:=(i:Int)) (q:=1) rfl rfl (z:=(((i + 1):Nat):Int)) (Bo (by first | rfl | omega | (push_cast; rfl)) (by omega) (by omega))) ?_
   refine l_A (iV ((((i + 1):Nat):Int))) rfl rfl ?_
   apply Ac
   refine ⟨_,?_,((i + 1)),v19,gr19,rfl,rfl,(Arz l6 l20),rfl,h6_1,rfl,rfl,(by omega),(Ga (by rw [ints_filter_succ]; simp [Adf,b12,b17]) G19),trivial⟩
   omega
  have q17:=of_decide_eq_false b17
  refine Al ?_
  apply k13
  refine Ag rfl rfl ?_
  refine Aa rfl (Ah (v:=(iV ((i:Int)))) h6_4) ?_
  refine Aa rfl (Br (p:=(i:Int)) (q:=1) rfl rfl (z:=(((i + 1):Nat):Int)) (Bo (by first | rfl | omega | (push_cast; rfl)) (by omega) (by omega))) ?_
  refine l_A (iV ((((i + 1):Nat):Int))) rfl rfl ?_
  apply Ac
  refine ⟨_,?_,((i + 1)),ov6_3,og6_3,rfl,rfl,l6,rfl,h6_1,h6_3,rfl,(by omega),(Ga (by rw [ints_filter_succ]; simp [Adf,b12,b17]) OG6_3),trivial⟩
  omega
 have q12:=of_decide_eq_false b12
 refine Bx ?_
 apply k4
 refine w_q rfl rfl fun K21 k21=>?_
 refine Aa rfl (Ah (v:=ov6_3) h6_3) ?_
 refine l_A ov6_3 rfl rfl ?_
 apply Ac
 apply k21
 refine Gy OG6_3 fun ρ22 l22 r22=>?_
 refine Aq ?_
 refine hret _ _ _ ?_
 refine ⟨(Arz (Arz l2 l6) l22),rfl,Aci (v:=ov6_3) rfl (Val.cast ?_ r22)⟩
 ·have hi:i = 1 <<< l.kinds.length:=by omega
  rw [hi]; rfl
set_option maxRecDepth 100000 in
theorem c_refafter {mn:Bool} {X:Frame→List Frame→Ro→Own→Cy→Prop} {ρ:Ro} {σ:Own} {l:Lab} {vl vs vr:Value} {sets:List Nat} {r:Found} (rl:Val ρ vl l) (rs:Val ρ vs (Bw sets)) (rr:Val ρ vr r) (hr:0 ≤ r.test∧r.test < (l.tests.length:Int)) (hs:∀ a ∈ sets,a < 16) (hl:sets.length ≤ 16):CallsH (CX mn X) 108 #[vl,vs,vr] ρ σ (fun w ρ' σ'=>Ro.le ρ ρ'∧σ' = σ∧Val ρ' w (Bw (Au l sets r):List Int)):=by
 have hl2:=Fe (l:=sets)
 refine Bh (n:=36) (args:=[vl,vs,vr]) [6] Tryd.func108 rfl rfl rfl rfl fun Q hret hnor=>?_
 refine w_q rfl rfl fun K1 k1=>?_
 refine Ae rfl (Eb (v:=vl) rfl fun k2=>?_)
 refine Bb (a:=l) rl fun ρ2 l2 r2=>?_
 replace rl:=Asa l2 rl
 replace rs:=Asa l2 rs
 replace rr:=Asa l2 rr
 refine Ae rfl (Eb (v:=vr) rfl fun k3=>?_)
 refine Bb (a:=r) rr fun ρ3 l3 r3=>?_
 replace rl:=Asa l3 rl
 replace rs:=Asa l3 rs
 replace rr:=Asa l3 rr
 replace r2:=Arv l3 r2
 refine l_A (.slice none 0 0) rfl rfl ?_
 apply Ac
 apply k1
 refine w_q rfl rfl fun K4 k4=>?_
 refine l_A (.slice none 0 0) rfl rfl ?_
 apply Ac
 apply k4
 refine Ai fun K5 k5=>?_
 refine w_q rfl rfl fun K6 k6=>?_
 refine l_A (iV (0)) rfl rfl ?_
 apply Ac
 apply k6
 refine Ao ?_
 refine Cc (fun mm ee dd ρ' σ'=>∃ (i:Nat) (ov7_7:Value) (og7_7:Own),(sets.length - i) = mm∧[] = dd∧Ro.le ρ3 ρ'∧(og7_7 ++ σ) = σ'∧ee 1 = vs∧ee 3 = (.pointer (some ⟨k2,0,none⟩))∧ee 5 = (.pointer (some ⟨k3,0,none⟩))∧ee 7 = ov7_7∧ee 8 = (iV ((i:Int)))∧(i ≤ sets.length)∧Grow ρ' 3 ov7_7 (Bw ((sets.take i).filter (Qg l r))) og7_7∧True) (m:=_) ⟨0,(.slice none 0 0),[],rfl,rfl,Ary,rfl,rfl,rfl,rfl,rfl,rfl,(Nat.zero_le _),Hn,trivial⟩ ?_
 rintro m7 e7 _ ρ7 _ ⟨i,ov7_7,og7_7,rfl,rfl,l7,rfl,h7_1,h7_3,h7_5,h7_7,h7_8,p7_0,OG7_7,_⟩
 replace rs:=Asa l7 rs
 replace r2:=Arv l7 r2
 replace r3:=Arv l7 r3
 refine Ai fun K8 k8=>?_
 refine w_q rfl rfl fun K9 k9=>?_
 refine Aa rfl (Ah (v:=(iV ((i:Int)))) h7_8) ?_
 refine Aa rfl (Ah (v:=vs) h7_1) ?_
 have g10:=Val.len rs
 refine Aa rfl (Ce (el:=3) Tryd.underlying30 rfl rs) ?_
 refine Aa rfl (Da (p:=(i:Int)) (q:=(((Bw sets).length:Nat):Int)) rfl rfl) ?_
 apply Ac
 apply k9
 refine As (t:=decide ((i:Int) < (((Bw sets).length:Nat):Int))) rfl (fun b11=>?_) (fun b11=>?_)
 ·have q11:=of_decide_eq_true b11
  refine Al ?_
  apply k8
  refine Ai fun K12 k12=>?_
  refine Ao ?_
  refine Ai fun K13 k13=>?_
  refine Dc [0,1,2,3,4,5,6,7,8,9,10,11,12] (by kernel_rfl) rfl rfl ?_
  refine Cd (i:=0) [o1,o0,o0,o0,o0,o0,o0,o0,o0,o0,o0,o0,o0] rfl (by kernel_rfl) rfl Ary rfl (Ay Lab.f_tests Tryd.underlying40 rfl rfl Vd (by decide) h7_3 r2) fun v14 r14=>?_
  refine Cd (i:=1) [o1,o1,o0,o0,o0,o0,o0,o0,o0,o0,o0,o0,o0] rfl (by kernel_rfl) rfl Ary rfl (Ax Vd rfl r14) fun v15 r15=>?_
  refine Cd (i:=2) [o1,o1,o1,o0,o0,o0,o0,o0,o0,o0,o0,o0,o0] rfl (by kernel_rfl) rfl Ary rfl (Ay Found.f_test Tryd.underlying43 rfl rfl ty3 (by decide) h7_5 r3) fun v16 r16=>?_
  have ⟨g17a,g17b⟩:=At.rng r16
  refine Be (i:=3) [o1,o1,o1,o1,o0,o0,o0,o0,o0,o0,o0,o0,o0] rfl (by kernel_rfl) rfl Ary rfl (Bc ty3 rfl r16) ?_
  obtain ⟨a19,ha19⟩:=Ed (xs:=l.tests) (i:=(r.test).toNat) (by omega)
  refine Cd (i:=4) [o1,o1,o1,o1,o1,o0,o0,o0,o0,o0,o0,o0,o0] rfl (by kernel_rfl) rfl Ary rfl (Ci ((r.test).toNat) Tryd.underlying38 Td rfl r15 (q:=r.test) rfl (by omega) ha19) fun v18 r18=>?_
  refine Cd (i:=5) [o1,o1,o1,o1,o1,o1,o0,o0,o0,o0,o0,o0,o0] rfl (by kernel_rfl) rfl Ary rfl (Ax Td rfl r18) fun v20 r20=>?_
  refine Be (i:=6) [o1,o1,o1,o1,o1,o1,o1,o0,o0,o0,o0,o0,o0] rfl (by kernel_rfl) rfl Ary rfl (Ah (v:=vs) h7_1) ?_
  refine Be (i:=7) [o1,o1,o1,o1,o1,o1,o1,o1,o0,o0,o0,o0,o0] rfl (by kernel_rfl) rfl Ary rfl (Ah (v:=(iV ((i:Int)))) h7_8) ?_
  obtain ⟨a22,ha22⟩:=Ed (xs:=Bw sets) (i:=i) (by omega)
  obtain ⟨b23,hb23,hz23⟩:=Uc ha22
  subst hz23
  have hq23:=hs b23 (List.mem_of_getElem? hb23)
  refine Cd (i:=8) [o1,o1,o1,o1,o1,o1,o1,o1,o1,o0,o0,o0,o0] rfl (by kernel_rfl) rfl Ary rfl (Ci i Tryd.underlying30 ty3 rfl rs (q:=(i:Int)) rfl rfl ha22) fun v21 r21=>?_
  have ⟨g24a,g24b⟩:=At.rng r21
  refine Be (i:=9) [o1,o1,o1,o1,o1,o1,o1,o1,o1,o1,o0,o0,o0] rfl (by kernel_rfl) rfl Ary rfl (Bc ty3 rfl r21) ?_
  refine Hl (i:=10) [o1,o1,o1,o1,o1,o1,o1,o1,o1,o1,o1,o0,o0] rfl (by kernel_rfl) rfl Ary rfl (Ay Found.f_found Tryd.underlying43 rfl rfl ty4 (by decide) h7_5 r3) fun v25 r25=>?_
  refine Bg (i:=11) [o1,o1,o1,o1,o1,o1,o1,o1,o1,o1,o1,o1,o0] rfl (by kernel_rfl) rfl Ary rfl (Nw ty4 rfl r25) ?_
  refine Dj (i:=12) [o1,o1,o1,o1,o1,o1,o1,o1,o1,o1,o1,o1,o1] rfl (by kernel_rfl) rfl rfl (Bn (vs:=[v20,(iV ((b23:Int))),(.bool (r.found))]) (v:=(.bool (Afm a19 b23 r.found))) (c_Can r20 (by omega)) Tryd.func107 rfl rfl ⟨rfl,rfl,rfl,trivial⟩ ⟨Ary,?_⟩)
  refine Ec rfl ?_
  apply k13
  refine As (t:=Afm a19 b23 r.found) rfl (fun b27=>?_) (fun b27=>?_)
  ·refine Ag rfl rfl ?_
   refine Aa rfl (Ah (v:=ov7_7) h7_7) ?_
   refine Aa rfl (Ah (v:=vs) h7_1) ?_
   refine Aa rfl (Ah (v:=(iV ((i:Int)))) h7_8) ?_
   refine Ak rfl (Ci i Tryd.underlying30 ty3 rfl rs (q:=(i:Int)) rfl rfl ha22) fun v28 r28=>?_
   have ⟨g29a,g29b⟩:=At.rng r28
   refine Aa rfl (Bc ty3 rfl r28) ?_
   refine Ae rfl (Bi (α:=Int) (xs:=[(b23:Int)]) (vs:=[(iV ((b23:Int)))]) Tryd.underlying30 ty3 zr3 rfl (by decide) (Dl (os:=[.tmp 32]) ⟨rfl,trivial⟩) ⟨(Cv.2 ⟨rfl,by constructor <;> omega⟩),trivial⟩ rfl (by decide) fun k30 cs30 R30=>?_)
   have G30:Grow ρ7 3 (.slice (some ⟨k30,0,none⟩) 1 1) ([(b23:Int)]:List Int) [(k30,.obj (.cells cs30.toArray 3 (0,0)))]:=Bs R30 rfl (by decide)
   refine Ca G30 fun ρ32 l32 r32=>?_
   replace rs:=Asa l32 rs
   replace r2:=Arv l32 r2
   replace r3:=Arv l32 r3
   replace OG7_7:=Grow.mono l32 OG7_7
   replace r28:=Arv l32 r28
   refine Ae rfl (Fx (σ:=σ) (gr:=og7_7) (xs:=Bw ((sets.take i).filter (Qg l r))) (ys:=([(b23:Int)]:List Int)) Tryd.underlying30 Tryd.underlying30 (Ab Tryd.typeInfo3) rfl (Nat.le_of_ble_eq_true rfl) rfl rfl rfl rfl OG7_7 r32 (by have h1:=List.length_filter_le (Qg l r) (sets.take i); simp only [Fe,List.length_append,List.length_cons,List.length_nil,List.length_range,List.length_take] at *; omega) fun v31 gr31 G31=>?_)
   refine l_A v31 rfl rfl ?_
   apply Ac
   apply k12
   refine Ag rfl rfl ?_
   refine Aa rfl (Ah (v:=(iV ((i:Int)))) h7_8) ?_
   refine Aa rfl (Br (p:=(i:Int)) (q:=1) rfl rfl (z:=(((i + 1):Nat):Int)) (Bo (by first | rfl | omega | (push_cast; rfl)) (by omega) (by omega))) ?_
   refine l_A (iV ((((i + 1):Nat):Int))) rfl rfl ?_
   apply Ac
   refine ⟨_,?_,((i + 1)),v31,gr31,rfl,rfl,(Arz l7 l32),rfl,h7_1,h7_3,h7_5,rfl,rfl,(by omega),(Ga (by rw [ints_take_succ hb23]; simp [Qg,ha19,b11,b27]) G31),trivial⟩
   omega
  refine Al ?_
  apply k12
  refine Ag rfl rfl ?_
  refine Aa rfl (Ah (v:=(iV ((i:Int)))) h7_8) ?_
  refine Aa rfl (Br (p:=(i:Int)) (q:=1) rfl rfl (z:=(((i + 1):Nat):Int)) (Bo (by first | rfl | omega | (push_cast; rfl)) (by omega) (by omega))) ?_
  refine l_A (iV ((((i + 1):Nat):Int))) rfl rfl ?_
  apply Ac
  refine ⟨_,?_,((i + 1)),ov7_7,og7_7,rfl,rfl,l7,rfl,h7_1,h7_3,h7_5,h7_7,rfl,(by omega),(Ga (by rw [ints_take_succ hb23]; simp [Qg,ha19,b11,b27]) OG7_7),trivial⟩
  omega
 have q11:=of_decide_eq_false b11
 refine Bx ?_
 apply k5
 refine w_q rfl rfl fun K33 k33=>?_
 refine Aa rfl (Ah (v:=ov7_7) h7_7) ?_
 refine l_A ov7_7 rfl rfl ?_
 apply Ac
 apply k33
 refine Gy OG7_7 fun ρ34 l34 r34=>?_
 refine Aq ?_
 refine hret _ _ _ ?_
 refine ⟨(Arz (Arz (Arz l2 l3) l7) l34),rfl,Aci (v:=ov7_7) rfl (Val.cast ?_ r34)⟩
 ·rw [List.take_of_length_le (by omega)]; rfl
set_option maxRecDepth 100000 in
theorem c_refRemain {mn:Bool} {X:Frame→List Frame→Ro→Own→Cy→Prop} {ρ:Ro} {σ:Own} {l:Lab} {vl vr:Value} {rs:List Found} (rl:Val ρ vl l) (rr:Val ρ vr rs) (ok:LabOk l) (hrs:∀ (i:Nat) (r:Found),rs[i]? = some r→0 ≤ r.test∧r.test < (l.tests.length:Int)):CallsH (CX mn X) 55 #[vl,vr] ρ σ (fun w ρ' σ'=>Ro.le ρ ρ'∧σ' = σ∧Val ρ' w (Bw (Ba l rs):List Int)):=by
 refine Bh (n:=23) (args:=[vl,vr]) [4] Tryd.func55 rfl rfl rfl rfl fun Q hret hnor=>?_
 refine w_q rfl rfl fun K1 k1=>?_
 refine Ae rfl (Eb (v:=vl) rfl fun k2=>?_)
 refine Bb (a:=l) rl fun ρ2 l2 r2=>?_
 replace rl:=Asa l2 rl
 replace rr:=Asa l2 rr
 refine l_A (.slice none 0 0) rfl rfl ?_
 apply Ac
 apply k1
 refine w_q rfl rfl fun K3 k3=>?_
 refine Ak rfl (Ax Aaj rfl r2) fun v4 r4=>?_
 refine Ae rfl (Cm (vs:=[v4]) (c_refSets r4 ok) Tryd.func101 rfl rfl ⟨rfl,trivial⟩ fun v5 ρ5 σ5 hc5=>?_)
 obtain ⟨l5,s5,r5⟩:=hc5
 replace s5:=s5.symm; subst s5
 replace rr:=Asa l5 rr
 replace r2:=Arv l5 r2
 replace r4:=Asa l5 r4
 refine l_A v5 rfl rfl ?_
 apply Ac
 apply k3
 refine Ai fun K6 k6=>?_
 refine w_q rfl rfl fun K7 k7=>?_
 refine l_A (iV (0)) rfl rfl ?_
 apply Ac
 apply k7
 refine Ao ?_
 refine Cc (fun mm ee dd ρ' σ'=>∃ (i:Nat) (vv8_5:Value),(rs.length - i) = mm∧[] = dd∧Ro.le ρ5 ρ'∧σ = σ'∧ee 1 = vr∧ee 2 = (.pointer (some ⟨k2,0,none⟩))∧ee 5 = vv8_5∧ee 6 = (iV ((i:Int)))∧(i ≤ rs.length)∧Val ρ' vv8_5 (Bw (Ba l (rs.take i)):List Int)∧True) (m:=_) ⟨0,v5,rfl,rfl,Ary,rfl,rfl,rfl,rfl,rfl,(Nat.zero_le _),(Val.cast (rfl) r5),trivial⟩ ?_
 rintro m8 e8 _ ρ8 _ ⟨i,vv8_5,rfl,rfl,l8,rfl,h8_1,h8_2,h8_5,h8_6,p8_0,VV8_5,_⟩
 replace rr:=Asa l8 rr
 replace r2:=Arv l8 r2
 refine Ai fun K9 k9=>?_
 refine w_q rfl rfl fun K10 k10=>?_
 refine Aa rfl (Ah (v:=(iV ((i:Int)))) h8_6) ?_
 refine Aa rfl (Ah (v:=vr) h8_1) ?_
 have g11:=Val.len rr
 refine Aa rfl (Ce (el:=43) Tryd.underlying41 rfl rr) ?_
 refine Aa rfl (Da (p:=(i:Int)) (q:=((rs.length:Nat):Int)) rfl rfl) ?_
 apply Ac
 apply k10
 refine As (t:=decide ((i:Int) < ((rs.length:Nat):Int))) rfl (fun b12=>?_) (fun b12=>?_)
 ·have q12:=of_decide_eq_true b12
  refine Al ?_
  apply k9
  refine Ai fun K13 k13=>?_
  refine Ao ?_
  refine Dc [0,1,2,3,4,5,6,7] (by kernel_rfl) rfl rfl ?_
  refine Cd (i:=0) [o1,o0,o0,o0,o0,o0,o0,o0] rfl (by kernel_rfl) rfl Ary rfl (Ax Aaj h8_2 r2) fun v14 r14=>?_
  refine Be (i:=1) [o1,o1,o0,o0,o0,o0,o0,o0] rfl (by kernel_rfl) rfl Ary rfl (Ah (v:=vv8_5) h8_5) ?_
  refine Be (i:=2) [o1,o1,o1,o0,o0,o0,o0,o0] rfl (by kernel_rfl) rfl Ary rfl (Ah (v:=vr) h8_1) ?_
  refine Bg (i:=3) [o1,o1,o1,o1,o0,o0,o0,o0] rfl (by kernel_rfl) rfl Ary rfl (Ah (v:=(iV ((i:Int)))) h8_6) ?_
  obtain ⟨a16,ha16⟩:=Ed (xs:=rs) (i:=i) (by omega)
  refine Hl (i:=4) [o1,o1,o1,o1,o1,o0,o0,o0] rfl (by kernel_rfl) rfl Ary rfl (Ci i Tryd.underlying41 Aax rfl rr (q:=(i:Int)) rfl rfl ha16) fun v15 r15=>?_
  refine Hl (i:=5) [o1,o1,o1,o1,o1,o1,o0,o0] rfl (by kernel_rfl) rfl Ary rfl (Ax Aax rfl r15) fun v17 r17=>?_
  refine Dj (i:=6) [o1,o1,o1,o1,o1,o1,o1,o0] rfl (by kernel_rfl) rfl rfl (Cm (vs:=[v14,vv8_5,v17]) (c_refafter (sets:=(Ba l (rs.take i))) r14 VV8_5 r17 (hrs _ _ ha16) (Qp ok).2 (Qp ok).1) Tryd.func108 rfl rfl ⟨rfl,rfl,rfl,trivial⟩ fun v18 ρ18 σ18 hc18=>?_)
  obtain ⟨l18,s18,r18⟩:=hc18
  replace s18:=s18.symm; subst s18
  replace rr:=Asa l18 rr
  replace r2:=Arv l18 r2
  replace VV8_5:=Asa l18 VV8_5
  replace r14:=Asa l18 r14
  replace r15:=Arv l18 r15
  replace r17:=Asa l18 r17
  refine ⟨l18,?_⟩
  refine Bg (i:=7) [o1,o1,o1,o1,o1,o1,o1,o1] rfl (by kernel_rfl) rfl l18 rfl (Cp (v:=v18) rfl) ?_
  refine Ec rfl ?_
  apply k13
  refine Ag rfl rfl ?_
  refine Aa rfl (Ah (v:=(iV ((i:Int)))) h8_6) ?_
  refine Aa rfl (Br (p:=(i:Int)) (q:=1) rfl rfl (z:=(((i + 1):Nat):Int)) (Bo (by first | rfl | omega | (push_cast; rfl)) (by omega) (by omega))) ?_
  refine l_A (iV ((((i + 1):Nat):Int))) rfl rfl ?_
  apply Ac
  refine ⟨_,?_,((i + 1)),v18,rfl,rfl,(Arz l8 l18),rfl,h8_1,h8_2,rfl,rfl,(by omega),(Val.cast (by rw [Zc ha16]) r18),trivial⟩
  omega
 have q12:=of_decide_eq_false b12
 refine Bx ?_
 apply k6
 refine w_q rfl rfl fun K19 k19=>?_
 refine Aa rfl (Ah (v:=vv8_5) h8_5) ?_
 refine l_A vv8_5 rfl rfl ?_
 apply Ac
 apply k19
 refine Aq ?_
 refine hret _ _ _ ?_
 refine ⟨(Arz (Arz l2 l5) l8),rfl,Aci (v:=vv8_5) rfl (Val.cast ?_ VV8_5)⟩
 ·rw [List.take_of_length_le (by omega)]
end Go.Proofs.YtoefdnbaklajeaaDoor

namespace Go.Proofs.YtoefdnbaklajeaaDoor
open Go
def firstAt (l:Lab) (rs:List Found) (i:Nat):Bool:=((Bw (Ba l (rs.take (i + 1)))).length:Int) == 0
def firstI (l:Lab) (rs:List Found):Int:=match Cl rs.length (firstAt l rs) with | some i=>(i:Int) | none=>-1
def firstV (l:Lab) (rs:List Found):Value:=if Hw l rs = 0 then .tuple #[.int .i64 (firstI l rs),.int .i64 0] else .tuple #[.int .i64 0,.int .i64 (Hw l rs)]
theorem count_take {sets:List Nat} {i a k:Nat} (h:sets[i]? = some a):Jd (sets.take (i + 1)) k = Jd (sets.take i) k + (a >>> k) % 2:=by
  unfold Jd
  rw [List.take_add_one,h,List.map_append,List.sum_append]; simp
end Go.Proofs.YtoefdnbaklajeaaDoor

namespace Go.Proofs.YtoefdnbaklajeaaDoor
open Go
set_option maxRecDepth 100000 in
theorem c_refCheckResults {mn:Bool} {X:Frame→List Frame→Ro→Own→Cy→Prop} {ρ:Ro} {σ:Own} {l:Lab} {vl vr:Value} {rs:List Found} (rl:Val ρ vl l) (rr:Val ρ vr rs):CallsH (CX mn X) 24 #[vl,vr] ρ σ (fun w ρ' σ'=>ρ' = ρ∧σ' = σ∧w = (iV (Cw l rs))):=by
 refine Bh (n:=17) (args:=[vl,vr]) [4] Tryd.func24 rfl rfl rfl rfl fun Q hret hnor=>?_
 refine w_q rfl rfl fun K1 k1=>?_
 refine Ae rfl (Eb (v:=vl) rfl fun k2=>?_)
 refine Bb (a:=l) rl fun ρ2 l2 r2=>?_
 replace rl:=Asa l2 rl
 replace rr:=Asa l2 rr
 refine l_A (iV (0)) rfl rfl ?_
 apply Ac
 apply k1
 refine Ai fun K3 k3=>?_
 refine w_q rfl rfl fun K4 k4=>?_
 refine Ak rfl (Ax Aaj rfl r2) fun v5 r5=>?_
 refine l_M vr rfl rfl ?_
 refine Ae rfl (Bn (vs:=[v5,vr]) (v:=(iV (Hw l rs))) (c_refcheckResults r5 rr) Tryd.func66 rfl rfl ⟨rfl,rfl,trivial⟩ ?_)
 refine l_A (iV (Hw l rs)) rfl rfl ?_
 apply Ac
 apply k4
 refine w_q rfl rfl fun K6 k6=>?_
 refine l_M (iV (Hw l rs)) rfl rfl ?_
 refine Aa rfl (Dg (p:=Hw l rs) (q:=0) rfl rfl) ?_
 apply Ac
 apply k6
 refine As (t:=Hw l rs != 0) rfl (fun b7=>?_) (fun b7=>?_)
 ·have q7:=Mb b7
  refine w_q rfl rfl fun K8 k8=>?_
  refine l_M (iV (Hw l rs)) rfl rfl ?_
  refine l_A (iV (Hw l rs)) rfl rfl ?_
  apply Ac
  apply k8
  refine Aj (Arw l2) ?_
  refine Aq ?_
  refine hret _ _ _ ?_
  refine ⟨rfl,rfl,Eq.trans (b:=(iV (Hw l rs))) rfl ?_⟩
  rw [Cw,Rx q7]
 have q7:=Jh b7
 refine Al ?_
 apply k3
 refine Ai fun K9 k9=>?_
 refine w_q rfl rfl fun K10 k10=>?_
 refine Ak rfl (Ax Aaj rfl r2) fun v11 r11=>?_
 refine l_M vr rfl rfl ?_
 obtain ⟨ok,hrs,hr8⟩:=Aou q7
 refine Ae rfl (Cm (vs:=[v11,vr]) (c_refRemain r11 rr ok hrs) Tryd.func55 rfl rfl ⟨rfl,rfl,trivial⟩ fun v12 ρ12 σ12 hc12=>?_)
 obtain ⟨l12,s12,r12⟩:=hc12
 replace s12:=s12.symm; subst s12
 replace rr:=Asa l12 rr
 replace r2:=Arv l12 r2
 replace r11:=Asa l12 r11
 have g13:=Val.len r12
 refine Aa rfl (Ce (el:=3) Tryd.underlying30 rfl r12) ?_
 refine Aa rfl (Ek (p:=(((Bw (Ba l rs)).length:Nat):Int)) (q:=0) rfl rfl) ?_
 apply Ac
 apply k10
 refine As (t:=(((Bw (Ba l rs)).length:Nat):Int) == 0) rfl (fun b14=>?_) (fun b14=>?_)
 ·have q14:=Jo b14
  refine w_q rfl rfl fun K15 k15=>?_
  refine l_A (iV (9)) rfl rfl ?_
  apply Ac
  apply k15
  refine Aj (Arw (Arz l2 l12)) ?_
  refine Aq ?_
  refine hret _ _ _ ?_
  refine ⟨rfl,rfl,Eq.trans (b:=(iV (9))) rfl ?_⟩
  rw [Cw,Gt q7,if_pos q14]
 have q14:=La b14
 refine Al ?_
 apply k9
 refine w_q rfl rfl fun K16 k16=>?_
 refine l_A (iV (0)) rfl rfl ?_
 apply Ac
 apply k16
 refine Aj (Arw (Arz l2 l12)) ?_
 refine Aq ?_
 refine hret _ _ _ ?_
 refine ⟨rfl,rfl,Eq.trans (b:=(iV (0))) rfl ?_⟩
 rw [Cw,Gt q7,if_neg q14]
set_option maxRecDepth 100000 in
theorem c_refFirst {mn:Bool} {X:Frame→List Frame→Ro→Own→Cy→Prop} {ρ:Ro} {σ:Own} {l:Lab} {vl vr:Value} {rs:List Found} (rl:Val ρ vl l) (rr:Val ρ vr rs):CallsH (CX mn X) 41 #[vl,vr] ρ σ (fun w ρ' σ'=>ρ' = ρ∧σ' = σ∧w = (firstV l rs)):=by
 refine Bh (n:=29) (args:=[vl,vr]) [4,5] Tryd.func41 rfl rfl rfl rfl fun Q hret hnor=>?_
 refine w_q rfl rfl fun K1 k1=>?_
 refine Ae rfl (Eb (v:=vl) rfl fun k2=>?_)
 refine Bb (a:=l) rl fun ρ2 l2 r2=>?_
 replace rl:=Asa l2 rl
 replace rr:=Asa l2 rr
 refine l_A (iV (0)) rfl rfl ?_
 refine l_A (iV (0)) rfl rfl ?_
 apply Ac
 apply k1
 refine Ai fun K3 k3=>?_
 refine w_q rfl rfl fun K4 k4=>?_
 refine Ak rfl (Ax Aaj rfl r2) fun v5 r5=>?_
 refine l_M vr rfl rfl ?_
 refine Ae rfl (Bn (vs:=[v5,vr]) (v:=(iV (Hw l rs))) (c_refcheckResults r5 rr) Tryd.func66 rfl rfl ⟨rfl,rfl,trivial⟩ ?_)
 refine l_A (iV (Hw l rs)) rfl rfl ?_
 apply Ac
 apply k4
 refine w_q rfl rfl fun K6 k6=>?_
 refine l_M (iV (Hw l rs)) rfl rfl ?_
 refine Aa rfl (Dg (p:=Hw l rs) (q:=0) rfl rfl) ?_
 apply Ac
 apply k6
 refine As (t:=Hw l rs != 0) rfl (fun b7=>?_) (fun b7=>?_)
 ·have q7:=Mb b7
  refine w_q rfl rfl fun K8 k8=>?_
  refine l_M (iV (Hw l rs)) rfl rfl ?_
  refine l_A (iV (0)) rfl rfl ?_
  refine l_A (iV (Hw l rs)) rfl rfl ?_
  apply Ac
  apply k8
  refine Aj (Arw l2) ?_
  refine Aq ?_
  refine hret _ _ _ ?_
  refine ⟨rfl,rfl,Eq.trans (b:=(.tuple #[(iV (0)),(iV (Hw l rs))])) (Mk (r:=4) (r':=5) (rs:=[]) (v:=(iV (0))) (v':=(iV (Hw l rs))) (vs:=[]) ⟨rfl,rfl,trivial⟩) ?_⟩
  rw [firstV,if_neg q7]
 have q7:=Jh b7
 refine Al ?_
 apply k3
 refine Ai fun K9 k9=>?_
 refine w_q rfl rfl fun K10 k10=>?_
 refine l_A (iV (0)) rfl rfl ?_
 apply Ac
 apply k10
 refine Ao ?_
 obtain ⟨ok,hrs,hr8⟩:=Aou q7
 refine Cc (fun mm ee dd ρ' σ'=>∃ (i:Nat),(rs.length - i) = mm∧[] = dd∧ρ2 = ρ'∧σ = σ'∧ee 1 = vr∧ee 2 = (.pointer (some ⟨k2,0,none⟩))∧ee 7 = (iV ((i:Int)))∧(i ≤ rs.length)∧(∀ j,j < i→firstAt l rs j = false)∧True) (m:=_) ⟨0,rfl,rfl,rfl,rfl,rfl,rfl,rfl,(Nat.zero_le _),(fun j h=>absurd h (Nat.not_lt_zero _)),trivial⟩ ?_
 rintro m11 e11 _ _ _ ⟨i,rfl,rfl,rfl,rfl,h11_1,h11_2,h11_7,p11_0,p11_1,_⟩
 refine Ai fun K12 k12=>?_
 refine w_q rfl rfl fun K13 k13=>?_
 refine Aa rfl (Ah (v:=(iV ((i:Int)))) h11_7) ?_
 refine Aa rfl (Ah (v:=vr) h11_1) ?_
 have g14:=Val.len rr
 refine Aa rfl (Ce (el:=43) Tryd.underlying41 rfl rr) ?_
 refine Aa rfl (Da (p:=(i:Int)) (q:=((rs.length:Nat):Int)) rfl rfl) ?_
 apply Ac
 apply k13
 refine As (t:=decide ((i:Int) < ((rs.length:Nat):Int))) rfl (fun b15=>?_) (fun b15=>?_)
 ·have q15:=of_decide_eq_true b15
  refine Al ?_
  apply k12
  refine Ai fun K16 k16=>?_
  refine Ao ?_
  refine Ai fun K17 k17=>?_
  refine Dc [0,1,2,3,4,5,6,7] (by kernel_rfl) rfl rfl ?_
  refine Cd (i:=0) [o1,o0,o0,o0,o0,o0,o0,o0] rfl (by kernel_rfl) rfl Ary rfl (Ax Aaj h11_2 r2) fun v18 r18=>?_
  refine Be (i:=1) [o1,o1,o0,o0,o0,o0,o0,o0] rfl (by kernel_rfl) rfl Ary rfl (Ah (v:=vr) h11_1) ?_
  refine Bg (i:=2) [o1,o1,o1,o0,o0,o0,o0,o0] rfl (by kernel_rfl) rfl Ary rfl (Ah (v:=(iV ((i:Int)))) h11_7) ?_
  refine Bg (i:=3) [o1,o1,o1,o1,o0,o0,o0,o0] rfl (by kernel_rfl) rfl Ary rfl (Br (p:=(i:Int)) (q:=1) rfl rfl (z:=(((i + 1):Nat):Int)) (Bo (by first | rfl | omega | (push_cast; rfl)) (by omega) (by omega))) ?_
  refine Hl (i:=4) [o1,o1,o1,o1,o1,o0,o0,o0] rfl (by kernel_rfl) rfl Ary rfl (y_slice_hi ((i + 1)) Tryd.underlying41 Aax rfl rr (q:=(((i + 1):Nat):Int)) rfl rfl (by omega)) fun v19 r19=>?_
  refine Dj (i:=5) [o1,o1,o1,o1,o1,o1,o0,o0] rfl (by kernel_rfl) rfl rfl (Cm (vs:=[v18,v19]) (c_refRemain r18 r19 ok (hrs.take _)) Tryd.func55 rfl rfl ⟨rfl,rfl,trivial⟩ fun v20 ρ20 σ20 hc20=>?_)
  obtain ⟨l20,s20,r20⟩:=hc20
  replace s20:=s20.symm; subst s20
  replace rr:=Asa l20 rr
  replace r2:=Arv l20 r2
  replace r18:=Asa l20 r18
  replace r19:=Asa l20 r19
  refine ⟨l20,?_⟩
  have g21:=Val.len r20
  refine Bg (i:=6) [o1,o1,o1,o1,o1,o1,o1,o0] rfl (by kernel_rfl) rfl l20 rfl (Ce (el:=3) Tryd.underlying30 rfl r20) ?_
  refine Bg (i:=7) [o1,o1,o1,o1,o1,o1,o1,o1] rfl (by kernel_rfl) rfl l20 rfl (Ek (p:=(((Bw (Ba l ((rs.take ((i + 1)))))).length:Nat):Int)) (q:=0) rfl rfl) ?_
  refine Ec rfl ?_
  apply k17
  refine As (t:=(((Bw (Ba l ((rs.take ((i + 1)))))).length:Nat):Int) == 0) rfl (fun b22=>?_) (fun b22=>?_)
  ·have q22:=Jo b22
   refine w_q rfl rfl fun K23 k23=>?_
   refine Aa rfl (Ah (v:=(iV ((i:Int)))) h11_7) ?_
   refine l_A (iV ((i:Int))) rfl rfl ?_
   refine l_A (iV (0)) rfl rfl ?_
   apply Ac
   apply k23
   refine Aj (Arw (Arz l2 l20)) ?_
   refine Aq ?_
   refine hret _ _ _ ?_
   refine ⟨rfl,rfl,Eq.trans (b:=(.tuple #[(iV ((i:Int))),(iV (0))])) (Mk (r:=4) (r':=5) (rs:=[]) (v:=(iV ((i:Int)))) (v':=(iV (0))) (vs:=[]) ⟨rfl,rfl,trivial⟩) ?_⟩
   have hi:=Fg (n:=rs.length) p11_1 (by omega) (show firstAt l rs i = true from b22)
   rw [firstV,if_pos q7]; simp only [firstI,hi]
  have q22:=La b22
  refine Al ?_
  apply k16
  refine Ag rfl rfl ?_
  refine Aa rfl (Ah (v:=(iV ((i:Int)))) h11_7) ?_
  refine Aa rfl (Br (p:=(i:Int)) (q:=1) rfl rfl (z:=(((i + 1):Nat):Int)) (Bo (by first | rfl | omega | (push_cast; rfl)) (by omega) (by omega))) ?_
  refine l_A (iV ((((i + 1):Nat):Int))) rfl rfl ?_
  refine Bj (Arw l20) ?_
  apply Ac
  refine ⟨_,?_,((i + 1)),rfl,rfl,rfl,rfl,h11_1,h11_2,rfl,(by omega),(Ef p11_1 (b22)),trivial⟩
  omega
 have q15:=of_decide_eq_false b15
 refine Bx ?_
 apply k9
 refine w_q rfl rfl fun K24 k24=>?_
 refine l_A (iV ((-1))) rfl rfl ?_
 refine l_A (iV (0)) rfl rfl ?_
 apply Ac
 apply k24
 refine Aj (Arw l2) ?_
 refine Aq ?_
 refine hret _ _ _ ?_
 refine ⟨rfl,rfl,Eq.trans (b:=(.tuple #[(iV ((-1))),(iV (0))])) (Mk (r:=4) (r':=5) (rs:=[]) (v:=(iV ((-1)))) (v':=(iV (0))) (vs:=[]) ⟨rfl,rfl,trivial⟩) ?_⟩
 have hn:=Ep (n:=rs.length) fun j hj=>p11_1 j (by omega)
 rw [firstV,if_pos q7]; simp only [firstI,hn]
set_option maxRecDepth 100000 in
theorem c_refBeliefs {mn:Bool} {X:Frame→List Frame→Ro→Own→Cy→Prop} {ρ:Ro} {σ:Own} {l:Lab} {vl vr:Value} {rs:List Found} (rl:Val ρ vl l) (rr:Val ρ vr rs):CallsH (CX mn X) 37 #[vl,vr] ρ σ (fun w ρ' σ'=>Ro.le ρ ρ'∧σ' = σ∧∃ v0,w = (.tuple #[v0,(iV (Cw l rs))])∧Val ρ' v0 (Sk l rs:List Int)):=by
 refine Bh (n:=55) (args:=[vl,vr]) [4,5] Tryd.func37 rfl rfl rfl rfl fun Q hret hnor=>?_
 refine w_q rfl rfl fun K1 k1=>?_
 refine Ae rfl (Eb (v:=vl) rfl fun k2=>?_)
 refine Bb (a:=l) rl fun ρ2 l2 r2=>?_
 replace rl:=Asa l2 rl
 replace rr:=Asa l2 rr
 refine l_A (.slice none 0 0) rfl rfl ?_
 refine l_A (iV (0)) rfl rfl ?_
 apply Ac
 apply k1
 refine Ai fun K3 k3=>?_
 refine w_q rfl rfl fun K4 k4=>?_
 refine Ak rfl (Ax Aaj rfl r2) fun v5 r5=>?_
 refine l_M vr rfl rfl ?_
 refine Ae rfl (Bn (vs:=[v5,vr]) (v:=(iV (Cw l rs))) (c_refCheckResults r5 rr) Tryd.func24 rfl rfl ⟨rfl,rfl,trivial⟩ ?_)
 refine l_A (iV (Cw l rs)) rfl rfl ?_
 apply Ac
 apply k4
 refine w_q rfl rfl fun K6 k6=>?_
 refine l_M (iV (Cw l rs)) rfl rfl ?_
 refine Aa rfl (Dg (p:=Cw l rs) (q:=0) rfl rfl) ?_
 apply Ac
 apply k6
 refine As (t:=Cw l rs != 0) rfl (fun b7=>?_) (fun b7=>?_)
 ·have q7:=Mb b7
  refine w_q rfl rfl fun K8 k8=>?_
  refine l_M (iV (Cw l rs)) rfl rfl ?_
  refine l_A (.slice none 0 0) rfl rfl ?_
  refine l_A (iV (Cw l rs)) rfl rfl ?_
  apply Ac
  apply k8
  refine Aq ?_
  refine hret _ _ _ ?_
  refine ⟨l2,rfl,(.slice none 0 0),Eq.trans (b:=(.tuple #[(.slice none 0 0),(iV (Cw l rs))])) (Mk (r:=4) (r':=5) (rs:=[]) (v:=(.slice none 0 0)) (v':=(iV (Cw l rs))) (vs:=[]) ⟨rfl,rfl,trivial⟩) ?_,Val.cast ?_ Gx⟩
  ·rfl
  ·rw [Sk,if_neg q7]
 have q7:=Jh b7
 refine Al ?_
 apply k3
 refine w_q rfl rfl fun K9 k9=>?_
 refine Ak rfl (Ax Aaj rfl r2) fun v10 r10=>?_
 refine l_M vr rfl rfl ?_
 refine Ae rfl (Cm (vs:=[v10,vr]) (c_refRemain r10 rr (Aou (Xz q7)).1 (Aou (Xz q7)).2.1) Tryd.func55 rfl rfl ⟨rfl,rfl,trivial⟩ fun v11 ρ11 σ11 hc11=>?_)
 obtain ⟨l11,s11,r11⟩:=hc11
 replace s11:=s11.symm; subst s11
 replace rr:=Asa l11 rr
 replace r2:=Arv l11 r2
 replace r10:=Asa l11 r10
 refine l_A v11 rfl rfl ?_
 apply Ac
 apply k9
 refine w_q rfl rfl fun K12 k12=>?_
 refine l_A (.slice none 0 0) rfl rfl ?_
 apply Ac
 apply k12
 refine Ai fun K13 k13=>?_
 refine w_q rfl rfl fun K14 k14=>?_
 refine l_A (iV (0)) rfl rfl ?_
 apply Ac
 apply k14
 refine Ao ?_
 obtain ⟨ok,hrs,hr8⟩:=Aou (Xz q7)
 have hk4:=ok.n4
 have hsl:=(Qp ok (rs:=rs)).1
 have hil:=Fe (l:=Ba l rs)
 refine Cc (fun mm ee dd ρ' σ'=>∃ (i:Nat) (ov15_8:Value) (og15_8:Own),(l.kinds.length - i) = mm∧[] = dd∧Ro.le ρ11 ρ'∧(og15_8 ++ σ) = σ'∧ee 2 = (.pointer (some ⟨k2,0,none⟩))∧ee 7 = v11∧ee 8 = ov15_8∧ee 9 = (iV ((i:Int)))∧(i ≤ l.kinds.length)∧Grow ρ' 53 ov15_8 ((List.range i).map (Pt (Ba l rs))) og15_8∧True) (m:=_) ⟨0,(.slice none 0 0),[],rfl,rfl,Ary,rfl,rfl,rfl,rfl,rfl,(Nat.zero_le _),Hn,trivial⟩ ?_
 rintro m15 e15 _ ρ15 _ ⟨i,ov15_8,og15_8,rfl,rfl,l15,rfl,h15_2,h15_7,h15_8,h15_9,p15_0,OG15_8,_⟩
 replace r2:=Arv l15 r2
 replace r11:=Asa l15 r11
 refine Ai fun K16 k16=>?_
 refine w_q rfl rfl fun K17 k17=>?_
 refine Aa rfl (Ah (v:=(iV ((i:Int)))) h15_9) ?_
 refine Ak rfl (Ay Lab.f_kinds Tryd.underlying40 rfl rfl Hu (by decide) h15_2 r2) fun v18 r18=>?_
 refine Ak rfl (Ax Hu rfl r18) fun v19 r19=>?_
 have g20:=Val.len r19
 refine Aa rfl (Ce (el:=9) Tryd.underlying22 rfl r19) ?_
 refine Aa rfl (Da (p:=(i:Int)) (q:=((l.kinds.length:Nat):Int)) rfl rfl) ?_
 apply Ac
 apply k17
 refine As (t:=decide ((i:Int) < ((l.kinds.length:Nat):Int))) rfl (fun b21=>?_) (fun b21=>?_)
 ·have q21:=of_decide_eq_true b21
  refine Al ?_
  apply k16
  refine Ai fun K22 k22=>?_
  refine Ao ?_
  refine w_q rfl rfl fun K23 k23=>?_
  refine l_A (iV (0)) rfl rfl ?_
  apply Ac
  apply k23
  refine Ai fun K24 k24=>?_
  refine w_q rfl rfl fun K25 k25=>?_
  refine l_A (iV (0)) rfl rfl ?_
  apply Ac
  apply k25
  refine Ao ?_
  refine Cc (fun mm ee dd ρ' σ'=>∃ (j:Nat) (c:Nat),((Bw (Ba l rs)).length - j) = mm∧[] = dd∧ρ15 = ρ'∧(og15_8 ++ σ) = σ'∧ee 2 = (.pointer (some ⟨k2,0,none⟩))∧ee 7 = v11∧ee 8 = ov15_8∧ee 9 = (iV ((i:Int)))∧ee 10 = (iV ((c:Int)))∧ee 11 = (iV ((j:Int)))∧(j ≤ (Bw (Ba l rs)).length)∧(c = Jd ((Ba l rs).take j) i)∧(c ≤ j)∧True) (m:=_) ⟨0,0,rfl,rfl,rfl,rfl,h15_2,h15_7,h15_8,h15_9,rfl,rfl,(Nat.zero_le _),(by simp [Jd]),(Nat.le_refl _),trivial⟩ ?_
  rintro m26 e26 _ _ _ ⟨j,c,rfl,rfl,rfl,rfl,h26_2,h26_7,h26_8,h26_9,h26_10,h26_11,p26_0,p26_1,p26_2,_⟩
  refine Ai fun K27 k27=>?_
  refine w_q rfl rfl fun K28 k28=>?_
  refine Aa rfl (Ah (v:=(iV ((j:Int)))) h26_11) ?_
  refine Aa rfl (Ah (v:=v11) h26_7) ?_
  have g29:=Val.len r11
  refine Aa rfl (Ce (el:=3) Tryd.underlying30 rfl r11) ?_
  refine Aa rfl (Da (p:=(j:Int)) (q:=(((Bw (Ba l rs)).length:Nat):Int)) rfl rfl) ?_
  apply Ac
  apply k28
  refine As (t:=decide ((j:Int) < (((Bw (Ba l rs)).length:Nat):Int))) rfl (fun b30=>?_) (fun b30=>?_)
  ·have q30:=of_decide_eq_true b30
   refine Al ?_
   apply k27
   refine Ai fun K31 k31=>?_
   refine Ao ?_
   refine Ag rfl rfl ?_
   refine Aa rfl (Ah (v:=(iV ((c:Int)))) h26_10) ?_
   refine Aa rfl (Ah (v:=v11) h26_7) ?_
   refine Aa rfl (Ah (v:=(iV ((j:Int)))) h26_11) ?_
   obtain ⟨a33,ha33⟩:=Ed (xs:=Bw (Ba l rs)) (i:=j) (by omega)
   obtain ⟨b34,hb34,hz34⟩:=Uc ha33
   subst hz34
   have hq34:=(Qp ok (rs:=rs)).2 b34 (List.mem_of_getElem? hb34)
   refine Ak rfl (Ci j Tryd.underlying30 ty3 rfl r11 (q:=(j:Int)) rfl rfl ha33) fun v32 r32=>?_
   have ⟨g35a,g35b⟩:=At.rng r32
   refine Aa rfl (Bc ty3 rfl r32) ?_
   refine Aa rfl (Ah (v:=(iV ((i:Int)))) h26_9) ?_
   refine Aa rfl (Jq (p:=b34) (q:=i) rfl rfl rfl (by omega)) ?_
   refine Aa rfl (y_rem (p:=(((b34 >>> i):Nat):Int)) (q:=2) rfl rfl (by omega) (z:=((((b34 >>> i) % 2):Nat):Int)) rfl) ?_
   refine Aa rfl (Br (p:=(c:Int)) (q:=((((b34 >>> i) % 2):Nat):Int)) rfl rfl (z:=(((c + ((b34 >>> i) % 2)):Nat):Int)) (Bo (by first | rfl | omega | (push_cast; rfl)) (by omega) (by omega))) ?_
   refine l_A (iV ((((c + ((b34 >>> i) % 2)):Nat):Int))) rfl rfl ?_
   apply Ac
   apply k31
   refine Ag rfl rfl ?_
   refine Aa rfl (Ah (v:=(iV ((j:Int)))) h26_11) ?_
   refine Aa rfl (Br (p:=(j:Int)) (q:=1) rfl rfl (z:=(((j + 1):Nat):Int)) (Bo (by first | rfl | omega | (push_cast; rfl)) (by omega) (by omega))) ?_
   refine l_A (iV ((((j + 1):Nat):Int))) rfl rfl ?_
   apply Ac
   refine ⟨_,?_,((j + 1)),((c + ((b34 >>> i) % 2))),rfl,rfl,rfl,rfl,h26_2,h26_7,h26_8,h26_9,rfl,rfl,(by omega),(by rw [count_take hb34,← p26_1]),(by omega),trivial⟩
   omega
  have q30:=of_decide_eq_false b30
  refine Bx ?_
  apply k24
  refine w_q rfl rfl fun K36 k36=>?_
  refine l_A (iV (0)) rfl rfl ?_
  apply Ac
  apply k36
  refine Ai fun K37 k37=>?_
  refine w_q rfl rfl fun K38 k38=>?_
  refine Aa rfl (Ah (v:=(iV ((c:Int)))) h26_10) ?_
  refine Aa rfl (Ah (v:=v11) h26_7) ?_
  have g39:=Val.len r11
  refine Aa rfl (Ce (el:=3) Tryd.underlying30 rfl r11) ?_
  refine Aa rfl (Ek (p:=(c:Int)) (q:=(((Bw (Ba l rs)).length:Nat):Int)) rfl rfl) ?_
  apply Ac
  apply k38
  refine As (t:=(c:Int) == (((Bw (Ba l rs)).length:Nat):Int)) rfl (fun b40=>?_) (fun b40=>?_)
  ·have q40:=Jo b40
   refine Ag rfl rfl ?_
   refine l_A (iV (1)) rfl rfl ?_
   apply Ac
   apply k37
   refine Ai fun K41 k41=>?_
   refine w_q rfl rfl fun K42 k42=>?_
   refine Aa rfl (Ah (v:=(iV ((c:Int)))) h26_10) ?_
   refine Aa rfl (Ek (p:=(c:Int)) (q:=0) rfl rfl) ?_
   apply Ac
   apply k42
   refine As (t:=(c:Int) == 0) rfl (fun b43=>?_) (fun b43=>?_)
   ·have q43:=Jo b43
    refine Ag rfl rfl ?_
    refine l_A (iV (2)) rfl rfl ?_
    apply Ac
    apply k41
    refine Ag rfl rfl ?_
    refine Aa rfl (Ah (v:=ov15_8) h26_8) ?_
    refine l_M (iV (2)) rfl rfl ?_
    refine Ae rfl (Bi (α:=Int) (xs:=[2]) (vs:=[(iV (2))]) Tryd.underlying46 Ov Abg rfl (by decide) (Dl (os:=[.tmp 51]) ⟨rfl,trivial⟩) ⟨(Cv.2 ⟨rfl,by constructor <;> omega⟩),trivial⟩ rfl (by decide) fun k44 cs44 R44=>?_)
    have G44:Grow ρ15 53 (.slice (some ⟨k44,0,none⟩) 1 1) ([2]:List Int) [(k44,.obj (.cells cs44.toArray 53 (0,0)))]:=Bs R44 rfl (by decide)
    refine Ca G44 fun ρ46 l46 r46=>?_
    replace r2:=Arv l46 r2
    replace r11:=Asa l46 r11
    replace OG15_8:=Grow.mono l46 OG15_8
    refine Ae rfl (Fx (σ:=σ) (gr:=og15_8) (xs:=(List.range i).map (Pt (Ba l rs))) (ys:=([2]:List Int)) Tryd.underlying46 Tryd.underlying46 (Ab Tryd.typeInfo53) rfl (Nat.le_of_ble_eq_true rfl) rfl rfl rfl rfl OG15_8 r46 (by simp only [List.length_map,List.length_range,List.length_append,List.length_cons,List.length_nil] at *; omega) fun v45 gr45 G45=>?_)
    refine l_A v45 rfl rfl ?_
    apply Ac
    apply k22
    refine Ag rfl rfl ?_
    refine Aa rfl (Ah (v:=(iV ((i:Int)))) h26_9) ?_
    refine Aa rfl (Br (p:=(i:Int)) (q:=1) rfl rfl (z:=(((i + 1):Nat):Int)) (Bo (by first | rfl | omega | (push_cast; rfl)) (by omega) (by omega))) ?_
    refine l_A (iV ((((i + 1):Nat):Int))) rfl rfl ?_
    apply Ac
    refine ⟨_,?_,((i + 1)),v45,gr45,rfl,rfl,(Arz l15 l46),rfl,h26_2,h26_7,rfl,rfl,(by omega),(Ga (by
  have hj:j = (Ba l rs).length:=by omega
  have hc:c = Jd (Ba l rs) i:=by rw [p26_1,hj,List.take_of_length_le (Nat.le_refl _)]
  have hv:Pt (Ba l rs) i = 2:=by unfold Pt; rw [← hc]; rw [if_pos (by omega)]
  rw [Mz,hv]) G45),trivial⟩
    omega
   have q43:=La b43
   refine Al ?_
   apply k41
   refine Ag rfl rfl ?_
   refine Aa rfl (Ah (v:=ov15_8) h26_8) ?_
   refine l_M (iV (1)) rfl rfl ?_
   refine Ae rfl (Bi (α:=Int) (xs:=[1]) (vs:=[(iV (1))]) Tryd.underlying46 Ov Abg rfl (by decide) (Dl (os:=[.tmp 51]) ⟨rfl,trivial⟩) ⟨(Cv.2 ⟨rfl,by constructor <;> omega⟩),trivial⟩ rfl (by decide) fun k47 cs47 R47=>?_)
   have G47:Grow ρ15 53 (.slice (some ⟨k47,0,none⟩) 1 1) ([1]:List Int) [(k47,.obj (.cells cs47.toArray 53 (0,0)))]:=Bs R47 rfl (by decide)
   refine Ca G47 fun ρ49 l49 r49=>?_
   replace r2:=Arv l49 r2
   replace r11:=Asa l49 r11
   replace OG15_8:=Grow.mono l49 OG15_8
   refine Ae rfl (Fx (σ:=σ) (gr:=og15_8) (xs:=(List.range i).map (Pt (Ba l rs))) (ys:=([1]:List Int)) Tryd.underlying46 Tryd.underlying46 (Ab Tryd.typeInfo53) rfl (Nat.le_of_ble_eq_true rfl) rfl rfl rfl rfl OG15_8 r49 (by simp only [List.length_map,List.length_range,List.length_append,List.length_cons,List.length_nil] at *; omega) fun v48 gr48 G48=>?_)
   refine l_A v48 rfl rfl ?_
   apply Ac
   apply k22
   refine Ag rfl rfl ?_
   refine Aa rfl (Ah (v:=(iV ((i:Int)))) h26_9) ?_
   refine Aa rfl (Br (p:=(i:Int)) (q:=1) rfl rfl (z:=(((i + 1):Nat):Int)) (Bo (by first | rfl | omega | (push_cast; rfl)) (by omega) (by omega))) ?_
   refine l_A (iV ((((i + 1):Nat):Int))) rfl rfl ?_
   apply Ac
   refine ⟨_,?_,((i + 1)),v48,gr48,rfl,rfl,(Arz l15 l49),rfl,h26_2,h26_7,rfl,rfl,(by omega),(Ga (by
  have hj:j = (Ba l rs).length:=by omega
  have hc:c = Jd (Ba l rs) i:=by rw [p26_1,hj,List.take_of_length_le (Nat.le_refl _)]
  have hv:Pt (Ba l rs) i = 1:=by unfold Pt; rw [← hc]; rw [if_neg (by omega),if_pos (by omega)]
  rw [Mz,hv]) G48),trivial⟩
   omega
  have q40:=La b40
  refine Al ?_
  apply k37
  refine Ai fun K50 k50=>?_
  refine w_q rfl rfl fun K51 k51=>?_
  refine Aa rfl (Ah (v:=(iV ((c:Int)))) h26_10) ?_
  refine Aa rfl (Ek (p:=(c:Int)) (q:=0) rfl rfl) ?_
  apply Ac
  apply k51
  refine As (t:=(c:Int) == 0) rfl (fun b52=>?_) (fun b52=>?_)
  ·have q52:=Jo b52
   refine Ag rfl rfl ?_
   refine l_A (iV (2)) rfl rfl ?_
   apply Ac
   apply k50
   refine Ag rfl rfl ?_
   refine Aa rfl (Ah (v:=ov15_8) h26_8) ?_
   refine l_M (iV (2)) rfl rfl ?_
   refine Ae rfl (Bi (α:=Int) (xs:=[2]) (vs:=[(iV (2))]) Tryd.underlying46 Ov Abg rfl (by decide) (Dl (os:=[.tmp 51]) ⟨rfl,trivial⟩) ⟨(Cv.2 ⟨rfl,by constructor <;> omega⟩),trivial⟩ rfl (by decide) fun k53 cs53 R53=>?_)
   have G53:Grow ρ15 53 (.slice (some ⟨k53,0,none⟩) 1 1) ([2]:List Int) [(k53,.obj (.cells cs53.toArray 53 (0,0)))]:=Bs R53 rfl (by decide)
   refine Ca G53 fun ρ55 l55 r55=>?_
   replace r2:=Arv l55 r2
   replace r11:=Asa l55 r11
   replace OG15_8:=Grow.mono l55 OG15_8
   refine Ae rfl (Fx (σ:=σ) (gr:=og15_8) (xs:=(List.range i).map (Pt (Ba l rs))) (ys:=([2]:List Int)) Tryd.underlying46 Tryd.underlying46 (Ab Tryd.typeInfo53) rfl (Nat.le_of_ble_eq_true rfl) rfl rfl rfl rfl OG15_8 r55 (by simp only [List.length_map,List.length_range,List.length_append,List.length_cons,List.length_nil] at *; omega) fun v54 gr54 G54=>?_)
   refine l_A v54 rfl rfl ?_
   apply Ac
   apply k22
   refine Ag rfl rfl ?_
   refine Aa rfl (Ah (v:=(iV ((i:Int)))) h26_9) ?_
   refine Aa rfl (Br (p:=(i:Int)) (q:=1) rfl rfl (z:=(((i + 1):Nat):Int)) (Bo (by first | rfl | omega | (push_cast; rfl)) (by omega) (by omega))) ?_
   refine l_A (iV ((((i + 1):Nat):Int))) rfl rfl ?_
   apply Ac
   refine ⟨_,?_,((i + 1)),v54,gr54,rfl,rfl,(Arz l15 l55),rfl,h26_2,h26_7,rfl,rfl,(by omega),(Ga (by
  have hj:j = (Ba l rs).length:=by omega
  have hc:c = Jd (Ba l rs) i:=by rw [p26_1,hj,List.take_of_length_le (Nat.le_refl _)]
  have hv:Pt (Ba l rs) i = 2:=by unfold Pt; rw [← hc]; rw [if_pos (by omega)]
  rw [Mz,hv]) G54),trivial⟩
   omega
  have q52:=La b52
  refine Al ?_
  apply k50
  refine Ag rfl rfl ?_
  refine Aa rfl (Ah (v:=ov15_8) h26_8) ?_
  refine l_M (iV (0)) rfl rfl ?_
  refine Ae rfl (Bi (α:=Int) (xs:=[0]) (vs:=[(iV (0))]) Tryd.underlying46 Ov Abg rfl (by decide) (Dl (os:=[.tmp 51]) ⟨rfl,trivial⟩) ⟨(Cv.2 ⟨rfl,by constructor <;> omega⟩),trivial⟩ rfl (by decide) fun k56 cs56 R56=>?_)
  have G56:Grow ρ15 53 (.slice (some ⟨k56,0,none⟩) 1 1) ([0]:List Int) [(k56,.obj (.cells cs56.toArray 53 (0,0)))]:=Bs R56 rfl (by decide)
  refine Ca G56 fun ρ58 l58 r58=>?_
  replace r2:=Arv l58 r2
  replace r11:=Asa l58 r11
  replace OG15_8:=Grow.mono l58 OG15_8
  refine Ae rfl (Fx (σ:=σ) (gr:=og15_8) (xs:=(List.range i).map (Pt (Ba l rs))) (ys:=([0]:List Int)) Tryd.underlying46 Tryd.underlying46 (Ab Tryd.typeInfo53) rfl (Nat.le_of_ble_eq_true rfl) rfl rfl rfl rfl OG15_8 r58 (by simp only [List.length_map,List.length_range,List.length_append,List.length_cons,List.length_nil] at *; omega) fun v57 gr57 G57=>?_)
  refine l_A v57 rfl rfl ?_
  apply Ac
  apply k22
  refine Ag rfl rfl ?_
  refine Aa rfl (Ah (v:=(iV ((i:Int)))) h26_9) ?_
  refine Aa rfl (Br (p:=(i:Int)) (q:=1) rfl rfl (z:=(((i + 1):Nat):Int)) (Bo (by first | rfl | omega | (push_cast; rfl)) (by omega) (by omega))) ?_
  refine l_A (iV ((((i + 1):Nat):Int))) rfl rfl ?_
  apply Ac
  refine ⟨_,?_,((i + 1)),v57,gr57,rfl,rfl,(Arz l15 l58),rfl,h26_2,h26_7,rfl,rfl,(by omega),(Ga (by
  have hj:j = (Ba l rs).length:=by omega
  have hc:c = Jd (Ba l rs) i:=by rw [p26_1,hj,List.take_of_length_le (Nat.le_refl _)]
  have hv:Pt (Ba l rs) i = 0:=by unfold Pt; rw [← hc]; rw [if_neg (by omega),if_neg (by omega)]
  rw [Mz,hv]) G57),trivial⟩
  omega
 have q21:=of_decide_eq_false b21
 refine Bx ?_
 apply k13
 refine w_q rfl rfl fun K59 k59=>?_
 refine Aa rfl (Ah (v:=ov15_8) h15_8) ?_
 refine l_A ov15_8 rfl rfl ?_
 refine l_A (iV (0)) rfl rfl ?_
 apply Ac
 apply k59
 refine Gy OG15_8 fun ρ60 l60 r60=>?_
 refine Aq ?_
 refine hret _ _ _ ?_
 refine ⟨(Arz (Arz (Arz l2 l11) l15) l60),rfl,ov15_8,Eq.trans (b:=(.tuple #[ov15_8,(iV (0))])) (Mk (r:=4) (r':=5) (rs:=[]) (v:=ov15_8) (v':=(iV (0))) (vs:=[]) ⟨rfl,rfl,trivial⟩) ?_,Val.cast ?_ r60⟩
 ·rw [q7]
 ·rw [Sk,if_pos q7,show i = l.kinds.length by omega]
end Go.Proofs.YtoefdnbaklajeaaDoor

namespace Go.Proofs.YtoefdnbaklajeaaDoor
open Go
set_option maxRecDepth 100000 in
theorem c_Great {mn:Bool} {X:Frame→List Frame→Ro→Own→Cy→Prop} {ρ:Ro} {σ:Own} {l:Lab} {vl:Value} (rl:Val ρ vl l):CallsH (CX mn X) 23 #[vl] ρ σ (fun w ρ' σ'=>ρ' = ρ∧σ' = σ∧∃ b,w = .bool b):=by
 refine Bh (n:=57) (args:=[vl]) [2] Tryd.func23 rfl rfl rfl rfl fun Q hret hnor=>?_
 refine w_q rfl rfl fun K1 k1=>?_
 refine Ae rfl (Eb (v:=vl) rfl fun k2=>?_)
 refine Bb (a:=l) rl fun ρ2 l2 r2=>?_
 replace rl:=Asa l2 rl
 refine l_A (.bool (false)) rfl rfl ?_
 apply Ac
 apply k1
 refine Ai fun K3 k3=>?_
 refine w_q rfl rfl fun K4 k4=>?_
 refine Ak rfl (Ay Lab.f_kinds Tryd.underlying40 rfl rfl Hu (by decide) rfl r2) fun v5 r5=>?_
 refine Ak rfl (Ax Hu rfl r5) fun v6 r6=>?_
 have g7:=Val.len r6
 refine Aa rfl (Ce (el:=9) Tryd.underlying22 rfl r6) ?_
 refine Aa rfl (Gk (p:=((l.kinds.length:Nat):Int)) (q:=40) rfl rfl) ?_
 refine l_M (.bool (decide (((l.kinds.length:Nat):Int) > 40))) rfl rfl ?_
 refine Cn (decide (((l.kinds.length:Nat):Int) > 40)) (fun b8=>?_) (fun b8=>?_)
 ·have q8:=of_decide_eq_true b8
  refine Ap (Bl rfl rfl rfl b8) ?_
  refine Ap (Bl rfl rfl rfl b8) ?_
  refine Ap (Bl rfl rfl rfl b8) ?_
  refine Ap (Bl rfl rfl rfl b8) ?_
  refine Aa rfl (Bt rfl b8 (v:=(.bool (true))) rfl) ?_
  apply Ac
  apply k4
  refine Co rfl rfl ?_
  refine w_q rfl rfl fun K9 k9=>?_
  refine l_A (.bool (true)) rfl rfl ?_
  apply Ac
  apply k9
  refine Aj (Arw l2) ?_
  refine Aq ?_
  refine hret _ _ _ ?_
  exact ⟨rfl,rfl,_,rfl⟩
 have q8:=of_decide_eq_false b8
 refine Ak (Ar rfl rfl rfl b8) (Ay Lab.f_tests Tryd.underlying40 rfl rfl Vd (by decide) rfl r2) fun v10 r10=>?_
 refine Ak (Ar rfl rfl rfl b8) (Ax Vd rfl r10) fun v11 r11=>?_
 have g12:=Val.len r11
 refine Aa (Ar rfl rfl rfl b8) (Ce (el:=108) Tryd.underlying38 rfl r11) ?_
 refine Aa (Ar rfl rfl rfl b8) (Gk (p:=((l.tests.length:Nat):Int)) (q:=40) rfl rfl) ?_
 refine Aa rfl (Bm rfl b8 (v:=(.bool (decide (((l.tests.length:Nat):Int) > 40)))) rfl) ?_
 apply Ac
 apply k4
 refine As (t:=decide (((l.tests.length:Nat):Int) > 40)) rfl (fun b13=>?_) (fun b13=>?_)
 ·have q13:=of_decide_eq_true b13
  refine w_q rfl rfl fun K14 k14=>?_
  refine l_A (.bool (true)) rfl rfl ?_
  apply Ac
  apply k14
  refine Aj (Arw l2) ?_
  refine Aq ?_
  refine hret _ _ _ ?_
  exact ⟨rfl,rfl,_,rfl⟩
 have q13:=of_decide_eq_false b13
 refine Al ?_
 apply k3
 refine w_q rfl rfl fun K15 k15=>?_
 refine l_A (iV (0)) rfl rfl ?_
 apply Ac
 apply k15
 refine Ai fun K16 k16=>?_
 refine w_q rfl rfl fun K17 k17=>?_
 refine l_A (iV (0)) rfl rfl ?_
 apply Ac
 apply k17
 refine Ao ?_
 refine Cc (fun mm ee dd ρ' σ'=>∃ (i:Nat) (n:Int),(l.kinds.length - i) = mm∧[] = dd∧ρ2 = ρ'∧σ = σ'∧ee 1 = (.pointer (some ⟨k2,0,none⟩))∧ee 3 = (iV (n))∧ee 4 = (iV ((i:Int)))∧(i ≤ l.kinds.length)∧True) (m:=_) ⟨0,0,rfl,rfl,rfl,rfl,rfl,rfl,rfl,(Nat.zero_le _),trivial⟩ ?_
 rintro m18 e18 _ _ _ ⟨i,n,rfl,rfl,rfl,rfl,h18_1,h18_3,h18_4,p18_0,_⟩
 refine Ai fun K19 k19=>?_
 refine w_q rfl rfl fun K20 k20=>?_
 refine Aa rfl (Ah (v:=(iV ((i:Int)))) h18_4) ?_
 refine Ak rfl (Ay Lab.f_kinds Tryd.underlying40 rfl rfl Hu (by decide) h18_1 r2) fun v21 r21=>?_
 refine Ak rfl (Ax Hu rfl r21) fun v22 r22=>?_
 have g23:=Val.len r22
 refine Aa rfl (Ce (el:=9) Tryd.underlying22 rfl r22) ?_
 refine Aa rfl (Da (p:=(i:Int)) (q:=((l.kinds.length:Nat):Int)) rfl rfl) ?_
 apply Ac
 apply k20
 refine As (t:=decide ((i:Int) < ((l.kinds.length:Nat):Int))) rfl (fun b24=>?_) (fun b24=>?_)
 ·have q24:=of_decide_eq_true b24
  refine Al ?_
  apply k19
  refine Ai fun K25 k25=>?_
  refine Ao ?_
  refine Ag rfl rfl ?_
  refine Aa rfl (Ah (v:=(iV (n))) h18_3) ?_
  refine Ak rfl (Ay Lab.f_kinds Tryd.underlying40 rfl rfl Hu (by decide) h18_1 r2) fun v26 r26=>?_
  refine Ak rfl (Ax Hu rfl r26) fun v27 r27=>?_
  refine Aa rfl (Ah (v:=(iV ((i:Int)))) h18_4) ?_
  obtain ⟨a29,ha29⟩:=Ed (xs:=l.kinds) (i:=i) (by omega)
  refine Ak rfl (Ci i Tryd.underlying22 ty9 rfl r27 (q:=(i:Int)) rfl rfl ha29) fun v28 r28=>?_
  have g30:=At.slen r28
  refine Aa rfl (Oz ty9 rfl r28) ?_
  refine Aa rfl (Afb Tryd.underlying9 (s:=a29) rfl) ?_
  refine Aa rfl (Br (p:=n) (q:=((a29.size:Nat):Int)) rfl rfl (z:=(IntKind.i64.wrap (n + ((a29.size:Nat):Int)))) rfl) ?_
  refine l_A (iV ((IntKind.i64.wrap (n + ((a29.size:Nat):Int))))) rfl rfl ?_
  apply Ac
  apply k25
  refine Ag rfl rfl ?_
  refine Aa rfl (Ah (v:=(iV ((i:Int)))) h18_4) ?_
  refine Aa rfl (Br (p:=(i:Int)) (q:=1) rfl rfl (z:=(((i + 1):Nat):Int)) (Bo (by first | rfl | omega | (push_cast; rfl)) (by omega) (by omega))) ?_
  refine l_A (iV ((((i + 1):Nat):Int))) rfl rfl ?_
  apply Ac
  refine ⟨_,?_,((i + 1)),((IntKind.i64.wrap (n + ((a29.size:Nat):Int)))),rfl,rfl,rfl,rfl,h18_1,rfl,rfl,(by omega),trivial⟩
  omega
 have q24:=of_decide_eq_false b24
 refine Bx ?_
 apply k16
 refine Ai fun K31 k31=>?_
 refine w_q rfl rfl fun K32 k32=>?_
 refine l_A (iV (0)) rfl rfl ?_
 apply Ac
 apply k32
 refine Ao ?_
 refine Cc (fun mm ee dd ρ' σ'=>∃ (i:Nat) (n:Int),(l.tests.length - i) = mm∧[] = dd∧ρ2 = ρ'∧σ = σ'∧ee 1 = (.pointer (some ⟨k2,0,none⟩))∧ee 3 = (iV (n))∧ee 5 = (iV ((i:Int)))∧(i ≤ l.tests.length)∧True) (m:=_) ⟨0,n,rfl,rfl,rfl,rfl,h18_1,h18_3,rfl,(Nat.zero_le _),trivial⟩ ?_
 rintro m33 e33 _ _ _ ⟨i,n,rfl,rfl,rfl,rfl,h33_1,h33_3,h33_5,p33_0,_⟩
 refine Ai fun K34 k34=>?_
 refine w_q rfl rfl fun K35 k35=>?_
 refine Aa rfl (Ah (v:=(iV ((i:Int)))) h33_5) ?_
 refine Ak rfl (Ay Lab.f_tests Tryd.underlying40 rfl rfl Vd (by decide) h33_1 r2) fun v36 r36=>?_
 refine Ak rfl (Ax Vd rfl r36) fun v37 r37=>?_
 have g38:=Val.len r37
 refine Aa rfl (Ce (el:=108) Tryd.underlying38 rfl r37) ?_
 refine Aa rfl (Da (p:=(i:Int)) (q:=((l.tests.length:Nat):Int)) rfl rfl) ?_
 apply Ac
 apply k35
 refine As (t:=decide ((i:Int) < ((l.tests.length:Nat):Int))) rfl (fun b39=>?_) (fun b39=>?_)
 ·have q39:=of_decide_eq_true b39
  refine Al ?_
  apply k34
  refine Ai fun K40 k40=>?_
  refine Ao ?_
  refine Ai fun K41 k41=>?_
  refine w_q rfl rfl fun K42 k42=>?_
  refine Ak rfl (Ay Lab.f_tests Tryd.underlying40 rfl rfl Vd (by decide) h33_1 r2) fun v43 r43=>?_
  refine Ak rfl (Ax Vd rfl r43) fun v44 r44=>?_
  refine Aa rfl (Ah (v:=(iV ((i:Int)))) h33_5) ?_
  obtain ⟨a46,ha46⟩:=Ed (xs:=l.tests) (i:=i) (by omega)
  refine Ak rfl (Ci i Tryd.underlying38 Td rfl r44 (q:=(i:Int)) rfl rfl ha46) fun v45 r45=>?_
  refine Ak rfl (Ay FTest.f_sees Tryd.underlying108 rfl rfl Aex (by decide) rfl r45) fun v47 r47=>?_
  refine Ak rfl (Ax Aex rfl r47) fun v48 r48=>?_
  have g49:=Val.len r48
  refine Aa rfl (Ce (el:=53) Tryd.underlying46 rfl r48) ?_
  refine Aa rfl (Gk (p:=((a46.sees.length:Nat):Int)) (q:=40) rfl rfl) ?_
  apply Ac
  apply k42
  refine As (t:=decide (((a46.sees.length:Nat):Int) > 40)) rfl (fun b50=>?_) (fun b50=>?_)
  ·have q50:=of_decide_eq_true b50
   refine w_q rfl rfl fun K51 k51=>?_
   refine l_A (.bool (true)) rfl rfl ?_
   apply Ac
   apply k51
   refine Aj (Arw l2) ?_
   refine Aq ?_
   refine hret _ _ _ ?_
   exact ⟨rfl,rfl,_,rfl⟩
  have q50:=of_decide_eq_false b50
  refine Al ?_
  apply k41
  refine Ag rfl rfl ?_
  refine Aa rfl (Ah (v:=(iV (n))) h33_3) ?_
  refine Ak rfl (Ay Lab.f_tests Tryd.underlying40 rfl rfl Vd (by decide) h33_1 r2) fun v52 r52=>?_
  refine Ak rfl (Ax Vd rfl r52) fun v53 r53=>?_
  refine Aa rfl (Ah (v:=(iV ((i:Int)))) h33_5) ?_
  refine Ak rfl (Ci i Tryd.underlying38 Td rfl r53 (q:=(i:Int)) rfl rfl ha46) fun v54 r54=>?_
  refine Ak rfl (Ay FTest.f_name Tryd.underlying108 rfl rfl ty9 (by decide) rfl r54) fun v55 r55=>?_
  have g56:=At.slen r55
  refine Aa rfl (Oz ty9 rfl r55) ?_
  refine Aa rfl (Afb Tryd.underlying9 (s:=a46.name) rfl) ?_
  refine Aa rfl (Br (p:=n) (q:=((a46.name.size:Nat):Int)) rfl rfl (z:=(IntKind.i64.wrap (n + ((a46.name.size:Nat):Int)))) rfl) ?_
  refine l_A (iV ((IntKind.i64.wrap (n + ((a46.name.size:Nat):Int))))) rfl rfl ?_
  apply Ac
  apply k40
  refine Ag rfl rfl ?_
  refine Aa rfl (Ah (v:=(iV ((i:Int)))) h33_5) ?_
  refine Aa rfl (Br (p:=(i:Int)) (q:=1) rfl rfl (z:=(((i + 1):Nat):Int)) (Bo (by first | rfl | omega | (push_cast; rfl)) (by omega) (by omega))) ?_
  refine l_A (iV ((((i + 1):Nat):Int))) rfl rfl ?_
  apply Ac
  refine ⟨_,?_,((i + 1)),((IntKind.i64.wrap (n + ((a46.name.size:Nat):Int)))),rfl,rfl,rfl,rfl,h33_1,rfl,rfl,(by omega),trivial⟩
  omega
 have q39:=of_decide_eq_false b39
 refine Bx ?_
 apply k31
 refine w_q rfl rfl fun K57 k57=>?_
 refine Aa rfl (Ah (v:=(iV (n))) h33_3) ?_
 refine Aa rfl (Gk (p:=n) (q:=1000) rfl rfl) ?_
 refine l_A (.bool (decide (n > 1000))) rfl rfl ?_
 apply Ac
 apply k57
 refine Aj (Arw l2) ?_
 refine Aq ?_
 refine hret _ _ _ ?_
 exact ⟨rfl,rfl,_,rfl⟩
end Go.Proofs.YtoefdnbaklajeaaDoor

namespace Go.Proofs.YtoefdnbaklajeaaDoor
open Go
set_option maxRecDepth 100000 in
theorem c_First {mn:Bool} {X:Frame→List Frame→Ro→Own→Cy→Prop} {ρ:Ro} {σ:Own} {l:Lab} {vl vr:Value} {rs:List Found} (hg:Glob ρ) (rl:Val ρ vl l) (rr:Val ρ vr rs):CallsH (CX mn X) 40 #[vl,vr] ρ σ (fun w ρ' σ'=>ρ' = ρ∧σ' = σ∧w = (firstV l rs)):=by
 refine Bh (n:=42) (args:=[vl,vr]) [4,5] Tryd.func40 rfl rfl rfl rfl fun Q hret hnor=>?_
 refine w_q rfl rfl fun K1 k1=>?_
 refine Ae rfl (Eb (v:=vl) rfl fun k2=>?_)
 refine Bb (a:=l) rl fun ρ2 l2 r2=>?_
 replace rl:=Asa l2 rl
 replace rr:=Asa l2 rr
 replace hg:=Glob.mono l2 hg
 refine l_A (iV (0)) rfl rfl ?_
 refine l_A (iV (0)) rfl rfl ?_
 apply Ac
 apply k1
 refine w_q rfl rfl fun K3 k3=>?_
 refine Ak rfl (Ax Aaj rfl r2) fun v4 r4=>?_
 refine l_M vr rfl rfl ?_
 refine Ae rfl (Cm (vs:=[v4,vr]) (Ahn r4 rr) Tryd.func94 rfl rfl ⟨rfl,rfl,trivial⟩ fun w5 ρ5 σ5 hc5=>?_)
 obtain ⟨l5,hc5⟩:=hc5
 replace rr:=Asa l5 rr
 replace hg:=Glob.mono l5 hg
 replace r2:=Arv l5 r2
 replace r4:=Asa l5 r4
 rcases hc5 with ⟨hF5,rfl,rfl⟩ | ⟨hF5,bp5,rm5,rfl,rfl,rb5⟩
 ·refine Aa rfl (Ah (v:=(.tuple #[(.pointer none),(iV ((Hw l rs)))])) rfl) ?_
  refine Aa rfl (Bk (vs:=#[(.pointer none),(iV ((Hw l rs)))]) rfl (v:=(.pointer none)) rfl) ?_
  refine Aa rfl (Bk (vs:=#[(.pointer none),(iV ((Hw l rs)))]) rfl (v:=(iV ((Hw l rs)))) rfl) ?_
  refine l_A (.pointer none) rfl rfl ?_
  refine l_A (iV ((Hw l rs))) rfl rfl ?_
  apply Ac
  apply k3
  refine Ai fun K6 k6=>?_
  refine w_q rfl rfl fun K7 k7=>?_
  refine l_M (iV ((Hw l rs))) rfl rfl ?_
  refine Aa rfl (Dg (p:=(Hw l rs)) (q:=0) rfl rfl) ?_
  apply Ac
  apply k7
  refine Co rfl (Anh hF5) ?_
  refine w_q rfl rfl fun K8 k8=>?_
  refine l_M (iV ((Hw l rs))) rfl rfl ?_
  refine l_A (iV (0)) rfl rfl ?_
  refine l_A (iV ((Hw l rs))) rfl rfl ?_
  apply Ac
  apply k8
  refine Aj (Arw (Arz l2 l5)) ?_
  refine Aq ?_
  refine hret _ _ _ ?_
  refine ⟨rfl,rfl,Eq.trans (b:=(.tuple #[(iV (0)),(iV ((Hw l rs)))])) (Mk (r:=4) (r':=5) (rs:=[]) (v:=(iV (0))) (v':=(iV ((Hw l rs)))) (vs:=[]) ⟨rfl,rfl,trivial⟩) ?_⟩
  rw [firstV,if_neg hF5]
 obtain ⟨hl,hrs,hr8⟩:=(show Gj l = 0∧ResOk l rs∧rs.length ≤ 8 from Abk hF5)
 have ok:=Lm hl
 have hk4:=ok.n4
 refine l_M (.tuple #[bp5,(iV (0))]) rfl rfl ?_
 refine Aa rfl (Bk (vs:=#[bp5,(iV (0))]) rfl (v:=bp5) rfl) ?_
 refine Aa rfl (Bk (vs:=#[bp5,(iV (0))]) rfl (v:=(iV (0))) rfl) ?_
 refine l_A bp5 rfl rfl ?_
 refine l_A (iV (0)) rfl rfl ?_
 apply Ac
 apply k3
 refine Ai fun K9 k9=>?_
 refine w_q rfl rfl fun K10 k10=>?_
 refine l_M (iV (0)) rfl rfl ?_
 refine Aa rfl (Dg (p:=0) (q:=0) rfl rfl) ?_
 apply Ac
 apply k10
 refine Cg rfl rfl ?_
 refine Al ?_
 apply k9
 refine w_q rfl rfl fun K11 k11=>?_
 refine l_M bp5 rfl rfl ?_
 refine Aa rfl (Hh rfl rb5) ?_
 refine Ak rfl (Ay Bench.f_all Tryd.underlying155 rfl rfl Jg (by decide) rfl rb5) fun v12 r12=>?_
 have ⟨g13a,g13b⟩:=At.rng r12
 refine Aa rfl (Bc Jg rfl r12) ?_
 refine l_A (iV (((Bf (Hk l):Nat):Int))) rfl rfl ?_
 apply Ac
 apply k11
 refine Ai fun K14 k14=>?_
 refine w_q rfl rfl fun K15 k15=>?_
 refine l_M vr rfl rfl ?_
 have g16:=Val.len rr
 refine Aa rfl (Ce (el:=43) Tryd.underlying41 rfl rr) ?_
 refine l_M (iV (0)) rfl rfl ?_
 apply Ac
 apply k15
 refine Ao ?_
 refine Cc (fun mm ee dd ρ' σ'=>∃ (i:Nat) (x:Nat),(rs.length - i) = mm∧[] = dd∧ρ5 = ρ'∧((rm5,Res.obj (Obj.map #[] 0)) :: σ) = σ'∧ee 6 = bp5∧ee 24 = vr∧ee 25 = (iV (((rs.length:Nat):Int)))∧ee 8 = (iV ((x:Int)))∧ee 26 = (iV ((i:Int)))∧(i ≤ rs.length)∧(∀ j,j < i→firstAt l rs j = false)∧(x = Bf (Ba l (rs.take i)))∧(x < 65536)∧True) (m:=_) ⟨0,Bf (Hk l),rfl,rfl,rfl,rfl,rfl,rfl,rfl,rfl,rfl,(Nat.zero_le _),(fun j h=>absurd h (Nat.not_lt_zero _)),rfl,(Jx (rs:=[]) ok),trivial⟩ ?_
 rintro m17 e17 _ _ _ ⟨i,x,rfl,rfl,rfl,rfl,h17_6,h17_24,h17_25,h17_8,h17_26,p17_0,p17_1,p17_2,p17_3,_⟩
 refine w_q rfl rfl fun K18 k18=>?_
 refine Aa rfl (Da (p:=(i:Int)) (q:=((rs.length:Nat):Int)) h17_26 h17_25) ?_
 apply Ac
 apply k18
 refine Ai fun K19 k19=>?_
 refine As (t:=decide ((i:Int) < ((rs.length:Nat):Int))) rfl (fun b20=>?_) (fun b20=>?_)
 ·have q20:=of_decide_eq_true b20
  refine Al ?_
  apply k19
  refine Ai fun K21 k21=>?_
  refine Ao ?_
  refine w_q rfl rfl fun K22 k22=>?_
  refine Aa rfl (Ah (v:=(iV ((i:Int)))) h17_26) ?_
  obtain ⟨a24,ha24⟩:=Ed (xs:=rs) (i:=i) (by omega)
  have hr_a24:=hrs _ _ ha24
  refine Ak rfl (Ci i Tryd.underlying41 Aax h17_24 rr (q:=(i:Int)) h17_26 rfl ha24) fun v23 r23=>?_
  refine Ak rfl (Ax Aax rfl r23) fun v25 r25=>?_
  refine Ae rfl (Ct Ahd fun k26=>?_)
  refine l_A (iV ((i:Int))) rfl rfl ?_
  refine Cx rfl (Du (v:=v25) (a:=a24) (c:=Alq) Aax rfl rfl r25 rfl ?_)
  refine Bb (a:=a24) r25 fun ρ27 l27 r27=>?_
  replace rr:=Asa l27 rr
  replace hg:=Glob.mono l27 hg
  replace rb5:=Arv l27 rb5
  replace r23:=Arv l27 r23
  replace r25:=Asa l27 r25
  apply Ac
  apply k22
  refine w_q rfl rfl fun K28 k28=>?_
  refine Aa rfl (Ah (v:=bp5) h17_6) ?_
  refine Aa rfl (Ah (v:=(iV ((x:Int)))) h17_8) ?_
  refine Ak rfl (Ay Found.f_test Tryd.underlying43 rfl rfl ty3 (by decide) rfl r27) fun v29 r29=>?_
  have ⟨g30a,g30b⟩:=At.rng r29
  refine Aa rfl (Bc ty3 rfl r29) ?_
  refine Ak rfl (Ay Found.f_found Tryd.underlying43 rfl rfl ty4 (by decide) rfl r27) fun v31 r31=>?_
  refine Aa rfl (Nw ty4 rfl r31) ?_
  refine Ae rfl (Bn (vs:=[bp5,(iV ((x:Int))),(iV (a24.test)),(.bool (a24.found))]) (v:=(iV (((Bf (Au l (Av x) ⟨a24.test,a24.found⟩):Nat):Int)))) (Px hg rb5 hl (by omega) (by omega)) Tryd.func76 rfl rfl ⟨rfl,rfl,rfl,rfl,trivial⟩ ?_)
  refine l_A (iV (((Bf (Au l (Av x) ⟨a24.test,a24.found⟩):Nat):Int))) rfl rfl ?_
  apply Ac
  apply k28
  refine w_q rfl rfl fun K33 k33=>?_
  refine l_M (iV (((Bf (Au l (Av x) ⟨a24.test,a24.found⟩):Nat):Int))) rfl rfl ?_
  refine Aa rfl (Ek (p:=((Bf (Au l (Av x) ⟨a24.test,a24.found⟩):Nat):Int)) (q:=0) rfl rfl) ?_
  apply Ac
  apply k33
  refine As (t:=((Bf (Au l (Av x) ⟨a24.test,a24.found⟩):Nat):Int) == 0) rfl (fun b34=>?_) (fun b34=>?_)
  ·have q34:=Jo b34
   refine w_q rfl rfl fun K35 k35=>?_
   refine l_M (iV ((i:Int))) rfl rfl ?_
   refine l_A (iV ((i:Int))) rfl rfl ?_
   refine l_A (iV (0)) rfl rfl ?_
   apply Ac
   apply k35
   refine Aj Ghost.drop ?_
   refine Aj (Arw (Arz (Arz l2 l5) l27)) ?_
   refine Aq ?_
   refine hret _ _ _ ?_
   refine ⟨rfl,rfl,Eq.trans (b:=(.tuple #[(iV ((i:Int))),(iV (0))])) (Mk (r:=4) (r':=5) (rs:=[]) (v:=(iV ((i:Int)))) (v':=(iV (0))) (vs:=[]) ⟨rfl,rfl,trivial⟩) ?_⟩
   have hxi:=Zc (l:=l) ha24
   have hxm:Bf (Au l (Av x) ⟨a24.test,a24.found⟩) = Bf (Ba l (rs.take (i + 1))):=(by rw [p17_2,Fq ok,hxi])
   have hi:=Fg (n:=rs.length) p17_1 (by omega) (show firstAt l rs i = true by have h0:=q34; rw [hxm] at h0; simp only [firstAt,Fe]; rw [Uz.1 (show Bf (Ba l (rs.take (i + 1))) = 0 by omega)]; rfl)
   rw [firstV,if_pos hF5]; simp only [firstI,hi] <;> rfl
  have q34:=La b34
  refine Al ?_
  apply k21
  refine Ag rfl rfl ?_
  refine Aa rfl (Br (p:=(i:Int)) (q:=1) h17_26 rfl (z:=(((i + 1):Nat):Int)) (Bo (by first | rfl | omega | (push_cast; rfl)) (by omega) (by omega))) ?_
  refine l_M (iV ((((i + 1):Nat):Int))) rfl rfl ?_
  refine Bj (Arw l27) ?_
  apply Ac
  refine ⟨_,?_,((i + 1)),(Bf (Au l (Av x) ⟨a24.test,a24.found⟩)),rfl,rfl,rfl,rfl,h17_6,h17_24,h17_25,rfl,rfl,(by omega),(Ef p17_1 (by have hxi:=Zc (l:=l) ha24; have hxm:Bf (Au l (Av x) ⟨a24.test,a24.found⟩) = Bf (Ba l (rs.take (i + 1))):=(by rw [p17_2,Fq ok,hxi]); unfold firstAt; rw [Fe]; exact beq_eq_false_iff_ne.2 (fun h=>q34 (by rw [hxm]; have:=Uz.2 (show (Ba l (rs.take (i + 1))).length = 0 by omega); omega)))),(by have hxi:=Zc (l:=l) ha24; have hxm:Bf (Au l (Av x) ⟨a24.test,a24.found⟩) = Bf (Ba l (rs.take (i + 1))):=(by rw [p17_2,Fq ok,hxi]); rw [hxm]),(by have hxi:=Zc (l:=l) ha24; have hxm:Bf (Au l (Av x) ⟨a24.test,a24.found⟩) = Bf (Ba l (rs.take (i + 1))):=(by rw [p17_2,Fq ok,hxi]); rw [hxm]; exact Jx ok),trivial⟩
  omega
 have q20:=of_decide_eq_false b20
 refine Bx ?_
 apply k14
 refine w_q rfl rfl fun K36 k36=>?_
 refine l_A (iV ((-1))) rfl rfl ?_
 refine l_A (iV (0)) rfl rfl ?_
 apply Ac
 apply k36
 refine Aj Ghost.drop ?_
 refine Aj (Arw (Arz l2 l5)) ?_
 refine Aq ?_
 refine hret _ _ _ ?_
 refine ⟨rfl,rfl,Eq.trans (b:=(.tuple #[(iV ((-1))),(iV (0))])) (Mk (r:=4) (r':=5) (rs:=[]) (v:=(iV ((-1)))) (v':=(iV (0))) (vs:=[]) ⟨rfl,rfl,trivial⟩) ?_⟩
 have hn:=Ep (n:=rs.length) fun j hj=>p17_1 j (by omega)
 rw [firstV,if_pos hF5]; simp only [firstI,hn] <;> rfl
end Go.Proofs.YtoefdnbaklajeaaDoor

namespace Go.Proofs.YtoefdnbaklajeaaDoor
open Go
theorem first_tuple (l:Lab) (rs:List Found):∃ a b:Int,firstV l rs = .tuple #[.int .i64 a,.int .i64 b]:=by
 unfold firstV; split
 ·exact ⟨_,_,rfl⟩
 ·exact ⟨_,_,rfl⟩
section
variable {mn:Bool} {X:Frame→List Frame→Ro→Own→Cy→Prop} {ρ:Ro} {σ:Own}
theorem c_FirstX {l:Lab} {rs:List Found} {vl vr v:Value} (hF:firstV l rs = v) (hg:Glob ρ) (rl:Val ρ vl l) (rr:Val ρ vr rs):CallsH (CX mn X) 40 #[vl,vr] ρ σ (fun w ρ' σ'=>ρ' = ρ∧σ' = σ∧w = v):=hF ▸ c_First hg rl rr
theorem c_refFirstX {l:Lab} {rs:List Found} {vl vr v:Value} (hF:firstV l rs = v) (rl:Val ρ vl l) (rr:Val ρ vr rs):CallsH (CX mn X) 41 #[vl,vr] ρ σ (fun w ρ' σ'=>ρ' = ρ∧σ' = σ∧w = v):=hF ▸ c_refFirst rl rr
end
set_option maxHeartbeats 4000000 in
set_option maxRecDepth 100000 in
theorem c_FakeBeliefs  {ρ:Ro} {σ:Own} {l:Lab} {rs:List Found} {vl vr:Value} (hg:Glob ρ) (hnr:Js σ) (rl:Val ρ vl l) (rr:Val ρ vr rs):Agv (CX true (Acu Tryd.prog)) 8 4 [vl,vr] ρ σ (fun w ρ' σ'=>ρ' = ρ∧σ' = σ∧w = (.bool (true))):=by
 obtain ⟨p,q,hF⟩:=first_tuple l rs
 refine body_fn (n:=70) Tryd.func8 rfl rfl rfl rfl fun Q hret hnor=>?_
 refine w_q rfl rfl fun K1 k1=>?_
 refine Ae rfl (Eb (v:=vl) rfl fun k2=>?_)
 refine Bb (a:=l) rl fun ρ2 l2 r2=>?_
 replace rl:=Asa l2 rl
 replace rr:=Asa l2 rr
 replace hg:=Glob.mono l2 hg
 refine l_A (.bool (false)) rfl rfl ?_
 apply Ac
 apply k1
 refine Ai fun K3 k3=>?_
 refine w_q rfl rfl fun K4 k4=>?_
 refine Ak rfl (Ax Aaj rfl r2) fun v5 r5=>?_
 refine Ae rfl (Cm (vs:=[v5]) (c_Great r5) Tryd.func23 rfl rfl ⟨rfl,trivial⟩ fun w6 ρ6 σ6 hc6=>?_)
 obtain ⟨hr6,hs6,b6_,hw6⟩:=hc6
 replace hr6:=hr6.symm; replace hs6:=hs6.symm; subst hr6 hs6 hw6
 refine l_M (.bool (b6_)) rfl rfl ?_
 refine Cn (b6_) (fun b7=>?_) (fun b7=>?_)
 ·refine Ap (Bl rfl rfl rfl b7) ?_
  refine Ap (Bl rfl rfl rfl b7) ?_
  refine Ap (Bl rfl rfl rfl b7) ?_
  refine Aa rfl (Bt rfl b7 (v:=(.bool (true))) rfl) ?_
  apply Ac
  apply k4
  refine Co rfl rfl ?_
  refine w_q rfl rfl fun K8 k8=>?_
  refine Ae rfl (Bn (vs:=[]) (v:=(.bool (true))) (c_tells hg hnr) Tryd.func17 rfl rfl trivial ?_)
  refine l_A (.bool (true)) rfl rfl ?_
  apply Ac
  apply k8
  refine Aj (Arw l2) ?_
  refine Aq ?_
  refine hret _ _ _ ?_
  refine ⟨rfl,rfl,Eq.trans (b:=(.bool (true))) rfl ?_⟩
  rfl
 refine l_M vr (Ar rfl rfl rfl b7) rfl ?_
 have g9:=Val.len rr
 refine Aa (Ar rfl rfl rfl b7) (Ce (el:=43) Tryd.underlying41 rfl rr) ?_
 refine Aa (Ar rfl rfl rfl b7) (Gk (p:=((rs.length:Nat):Int)) (q:=40) rfl rfl) ?_
 refine Aa rfl (Bm rfl b7 (v:=(.bool (decide (((rs.length:Nat):Int) > 40)))) rfl) ?_
 apply Ac
 apply k4
 refine As (t:=decide (((rs.length:Nat):Int) > 40)) rfl (fun b10=>?_) (fun b10=>?_)
 ·have q10:=of_decide_eq_true b10
  refine w_q rfl rfl fun K11 k11=>?_
  refine Ae rfl (Bn (vs:=[]) (v:=(.bool (true))) (c_tells hg hnr) Tryd.func17 rfl rfl trivial ?_)
  refine l_A (.bool (true)) rfl rfl ?_
  apply Ac
  apply k11
  refine Aj (Arw l2) ?_
  refine Aq ?_
  refine hret _ _ _ ?_
  refine ⟨rfl,rfl,Eq.trans (b:=(.bool (true))) rfl ?_⟩
  rfl
 have q10:=of_decide_eq_false b10
 refine Al ?_
 apply k3
 refine w_q rfl rfl fun K12 k12=>?_
 refine Ak rfl (Ax Aaj rfl r2) fun v13 r13=>?_
 refine l_M vr rfl rfl ?_
 refine Ae rfl (Cm (vs:=[v13,vr]) (Aec hg r13 rr) Tryd.func25 rfl rfl ⟨rfl,rfl,trivial⟩ fun w14 ρ14 σ14 hc14=>?_)
 obtain ⟨l14,s14,v14_0,w14e,r14_0⟩:=hc14
 replace s14:=s14.symm; subst s14 w14e
 replace rr:=Asa l14 rr
 replace hg:=Glob.mono l14 hg
 replace r2:=Arv l14 r2
 replace r13:=Asa l14 r13
 refine l_M (.tuple #[v14_0,(iV (Cw l rs))]) rfl rfl ?_
 refine Aa rfl (Bk (vs:=#[v14_0,(iV (Cw l rs))]) rfl (v:=v14_0) rfl) ?_
 refine Aa rfl (Bk (vs:=#[v14_0,(iV (Cw l rs))]) rfl (v:=(iV (Cw l rs))) rfl) ?_
 refine l_A v14_0 rfl rfl ?_
 refine l_A (iV (Cw l rs)) rfl rfl ?_
 apply Ac
 apply k12
 refine w_q rfl rfl fun K15 k15=>?_
 refine Ak rfl (Ax Aaj rfl r2) fun v16 r16=>?_
 refine l_M vr rfl rfl ?_
 refine Ae rfl (Cm (vs:=[v16,vr]) (c_refBeliefs r16 rr) Tryd.func37 rfl rfl ⟨rfl,rfl,trivial⟩ fun w17 ρ17 σ17 hc17=>?_)
 obtain ⟨l17,s17,v17_0,w17e,r17_0⟩:=hc17
 replace s17:=s17.symm; subst s17 w17e
 replace rr:=Asa l17 rr
 replace hg:=Glob.mono l17 hg
 replace r2:=Arv l17 r2
 replace r14_0:=Asa l17 r14_0
 replace r16:=Asa l17 r16
 refine l_M (.tuple #[v17_0,(iV (Cw l rs))]) rfl rfl ?_
 refine Aa rfl (Bk (vs:=#[v17_0,(iV (Cw l rs))]) rfl (v:=v17_0) rfl) ?_
 refine Aa rfl (Bk (vs:=#[v17_0,(iV (Cw l rs))]) rfl (v:=(iV (Cw l rs))) rfl) ?_
 refine l_A v17_0 rfl rfl ?_
 refine l_A (iV (Cw l rs)) rfl rfl ?_
 apply Ac
 apply k15
 refine Ai fun K18 k18=>?_
 refine Ai fun K19 k19=>?_
 refine Dc [0,1,2,3,4,5,6,7,8,9,10,11,12,13,14,15] (by kernel_rfl) rfl rfl ?_
 refine Be (i:=0) Apx rfl (by kernel_rfl) rfl Ary rfl (Ah (v:=v14_0) rfl) ?_
 refine Bg (i:=1) Arn rfl (by kernel_rfl) rfl Ary rfl (Ah (v:=v17_0) rfl) ?_
 refine Dj (i:=2) Aqz rfl (by kernel_rfl) rfl rfl (Bn (vs:=[v14_0,v17_0]) (v:=(.bool (decide (Sk l rs = Sk l rs)))) (Oo r14_0 r17_0) Tryd.func27 rfl rfl ⟨rfl,rfl,trivial⟩ ⟨Ary,?_⟩)
 refine Bg (i:=3) Arc rfl (by kernel_rfl) rfl Ary rfl (Ix (k:=decide (Sk l rs = Sk l rs)) rfl) ?_
 refine Bg (i:=4) Ark rfl (by kernel_rfl) rfl Ary rfl (Ah (v:=(.bool (!(decide (Sk l rs = Sk l rs))))) rfl) ?_
 refine Be (i:=5) Aqg rfl (by kernel_rfl) rfl Ary (Ar rfl rfl rfl (not_t (by simp))) (Ah (v:=(iV (Cw l rs))) rfl) ?_
 refine Bg (i:=6) Aqb rfl (by kernel_rfl) rfl Ary (Ar rfl rfl rfl (not_t (by simp))) (Ah (v:=(iV (Cw l rs))) rfl) ?_
 refine Bg (i:=7) Aoa rfl (by kernel_rfl) rfl Ary (Ar rfl rfl rfl (not_t (by simp))) (Dg (p:=Cw l rs) (q:=Cw l rs) rfl rfl) ?_
 refine Bg (i:=8) Amy rfl (by kernel_rfl) rfl Ary rfl (Bm rfl (not_t (by simp)) (v:=(.bool (Cw l rs != Cw l rs))) rfl) ?_
 refine Bg (i:=9) Anr rfl (by kernel_rfl) rfl Ary rfl (Ah (v:=(.bool (Cw l rs != Cw l rs))) rfl) ?_
 refine Cd (i:=10) [o1,o1,o1,o1,o1,o1,o1,o1,o1,o1,o1,o0,o0,o0,o0,o0] rfl (by kernel_rfl) rfl Ary (Ar rfl rfl rfl (by simp)) (Ax Aaj rfl r2) fun v20 r20=>?_
 refine Cd (i:=12) [o1,o1,o1,o1,o1,o1,o1,o1,o1,o1,o1,o0,o1,o0,o0,o0] rfl (by kernel_rfl) rfl Ary (Ar rfl rfl rfl (by simp)) (Ax Aaj rfl r2) fun v21 r21=>?_
 refine Dj (i:=11) Ans rfl (by kernel_rfl) rfl (Ar rfl rfl rfl (by simp)) (Bn (vs:=[v20]) (v:=(iV (Gj l))) (Abc r20) Tryd.func38 rfl rfl ⟨rfl,trivial⟩ ⟨Ary,?_⟩)
 refine Dj (i:=13) Apc rfl (by kernel_rfl) rfl (Ar rfl rfl rfl (by simp)) (Bn (vs:=[v21]) (v:=(iV (Gj l))) (c_refCheckLab r21) Tryd.func39 rfl rfl ⟨rfl,trivial⟩ ⟨Ary,?_⟩)
 refine Bg (i:=14) Amv rfl (by kernel_rfl) rfl Ary (Ar rfl rfl rfl (by simp)) (Dg (p:=Gj l) (q:=Gj l) rfl rfl) ?_
 refine Bg (i:=15) Apa rfl (by kernel_rfl) rfl Ary rfl (Bm rfl (by simp) (v:=(.bool (Gj l != Gj l))) rfl) ?_
 refine Ec rfl ?_
 apply k19
 refine Cg rfl (by simp) ?_
 refine Al ?_
 apply k18
 refine w_q rfl rfl fun K22 k22=>?_
 refine Ak rfl (Ax Aaj rfl r2) fun v23 r23=>?_
 refine l_M vr rfl rfl ?_
 refine Ae rfl (Bn (vs:=[v23,vr]) (v:=(.tuple #[(iV (p)),(iV (q))])) (c_FirstX hF hg r23 rr) Tryd.func40 rfl rfl ⟨rfl,rfl,trivial⟩ ?_)
 refine l_M (.tuple #[(iV (p)),(iV (q))]) rfl rfl ?_
 refine Aa rfl (Bk (vs:=#[(iV (p)),(iV (q))]) rfl (v:=(iV (p))) rfl) ?_
 refine Aa rfl (Bk (vs:=#[(iV (p)),(iV (q))]) rfl (v:=(iV (q))) rfl) ?_
 refine l_A (iV (p)) rfl rfl ?_
 refine l_A (iV (q)) rfl rfl ?_
 apply Ac
 apply k22
 refine w_q rfl rfl fun K24 k24=>?_
 refine Ak rfl (Ax Aaj rfl r2) fun v25 r25=>?_
 refine l_M vr rfl rfl ?_
 refine Ae rfl (Bn (vs:=[v25,vr]) (v:=(.tuple #[(iV (p)),(iV (q))])) (c_refFirstX hF r25 rr) Tryd.func41 rfl rfl ⟨rfl,rfl,trivial⟩ ?_)
 refine l_M (.tuple #[(iV (p)),(iV (q))]) rfl rfl ?_
 refine Aa rfl (Bk (vs:=#[(iV (p)),(iV (q))]) rfl (v:=(iV (p))) rfl) ?_
 refine Aa rfl (Bk (vs:=#[(iV (p)),(iV (q))]) rfl (v:=(iV (q))) rfl) ?_
 refine l_A (iV (p)) rfl rfl ?_
 refine l_A (iV (q)) rfl rfl ?_
 apply Ac
 apply k24
 refine w_q rfl rfl fun K26 k26=>?_
 refine l_M (iV (p)) rfl rfl ?_
 refine l_M (iV (p)) rfl rfl ?_
 refine Aa rfl (Ek (p:=p) (q:=p) rfl rfl) ?_
 refine l_M (.bool (p == p)) rfl rfl ?_
 refine l_M (iV (q)) (Ar rfl rfl rfl (by simp)) rfl ?_
 refine l_M (iV (q)) (Ar rfl rfl rfl (by simp)) rfl ?_
 refine Aa (Ar rfl rfl rfl (by simp)) (Ek (p:=q) (q:=q) rfl rfl) ?_
 refine Aa rfl (Bt rfl (by simp) (v:=(.bool (q == q))) rfl) ?_
 refine l_M (.bool (q == q)) rfl rfl ?_
 refine Ae (Ar rfl rfl rfl (by simp)) (Bn (vs:=[]) (v:=(.bool (true))) (c_tells hg hnr) Tryd.func17 rfl rfl trivial ?_)
 refine Aa rfl (Bt rfl (by simp) (v:=(.bool (true))) rfl) ?_
 refine l_A (.bool (true)) rfl rfl ?_
 apply Ac
 apply k26
 refine Aj (Arw (Arz (Arz l2 l14) l17)) ?_
 refine Aq ?_
 refine hret _ _ _ ?_
 refine ⟨rfl,rfl,Eq.trans (b:=(.bool (true))) rfl ?_⟩
 rfl
end Go.Proofs.YtoefdnbaklajeaaDoor

namespace Go.Proofs.YtoefdnbaklajeaaDoor
open Go Go.WideShapes Go.ChangeShapes Go.RowKit Go.Conc
set_option maxRecDepth 100000
theorem fakeBeliefs_lifted (os:Os) (started:os.Started) (H:Type) (enc:TypeId × Value→H):ReturnsInLeavingWide {} Tryd.checked os 8 .any (Aqs H enc Rows.fakeBeliefsSpec Tryd.f8) (Rows.fakeBeliefsSpec.post enc Tryd.prog Tryd.f8 false true false false):=by
  refine law_lift (r:=4) os started H enc Tryd.func8 rfl rfl (by kernel_rfl) (by decide) (fun ds hd=>?_)
    (ChangeSpec.witness_shaped (enc:=enc) (C:=Tryd.checked) (os:=os) (X:=fun w _=>laidMetH Tryd.prog laidL w) false (World.doorLaid Tryd.prog 2000 os) #[.agg #[.slice none 0 0,.int .i64 0,.slice none 0 0],.slice none 0 0] 8 rfl (World.shaped_of_RefB (by kernel_rfl) (by kernel_rfl)) (by kernel_rfl) (by kernel_rfl) (by kernel_rfl) (door_met os _)) ?_
  · match ds,hd with
    | [d1,d2],_=>rfl
  · intro W args ds ps hv hA hw hg
    obtain ⟨hl1,hl2⟩:=Sa hA
    match args,hl1,ds,hl2,hA with
    | [v1,v2],_,[d1,d2],_,⟨p1,q1,h1,⟨p2,q2,h2,_,_⟩,_⟩ =>
      obtain ⟨b1,k1⟩:=hv 0 40 v1 rfl rfl
      obtain ⟨b2,k2⟩:=hv 1 41 v2 rfl rfl
      obtain ⟨x1,rx1⟩:=arg_struct dec40 rfl Tryd.underlying40 k1 h1 (weights_at hw (j:=0) rfl rfl)
      obtain ⟨x2,rx2⟩:=arg_slice (dec_list Tryd.underlying41 (by kernel_rfl) (Nat.le_of_ble_eq_true (by kernel_rfl)) (by decide) dec43) Tryd.underlying41 k2 h2 (weights_at hw (j:=1) rfl rfl)
      exact c_FakeBeliefs hg (fun c vs h=>by cases h) rx1 rx2
theorem fakeBeliefs_row:Rows.FakeBeliefsSaid :=
  OpenClaim.holds_of_wide_leaving 8 Tryd.f8 rfl rfl rfl rfl rfl rfl rfl ⟨rfl,rfl,rfl,rfl,rfl⟩ rfl rfl rfl rfl rfl (by kernel_rfl) Tryd.func8 (by kernel_rfl)
    (of_decide_eq_true (by kernel_rfl)) (by unfold Func.isWrapper; first | (rw [if_pos (by decide +kernel)]; kernel_rfl) | (rw [if_neg (by decide +kernel)]; exact ⟨rfl,rfl⟩))
    (fun os started H enc _=>fakeBeliefs_lifted os started H enc)
theorem fakeBeliefs_holds:Rows.FakeBeliefsCardSaid :=
  tied_goes .later [.funcs,.data] true (true,"5ad7a6b1106c4d9dff1ffa762e242e88c7338921ee0cf2e26581c2f653fcb6c6") false fakeBeliefs_row (by kernel_rfl) fakeBeliefs_row_tie rfl ⟨rfl,rfl⟩ (by kernel_rfl) rfl
    (fun f fn hf hfn=>by
      obtain rfl:f = 8:=Option.some.inj ((show Tryd.prog.funcNamed "crocus/crocuslaw08.FakeBeliefs" = some 8 by kernel_rfl).symm.trans hf) |>.symm
      obtain rfl:fn = Tryd.f8:=(Option.some.inj (Tryd.func8.symm.trans hfn)).symm
      exact ⟨by kernel_rfl,fun j t ht=>by
        have h2:t = 40∨t = 41:=by
          match j,ht with
          | 0,h=>exact .inl (Option.some.inj h).symm
          | 1,h=>exact .inr ((Option.some.inj h).symm)
        rcases h2 with rfl | rfl
        · exact (show Tryd.prog.wantsStandIn 40 = false by kernel_rfl)
        · exact (show Tryd.prog.wantsStandIn 41 = false by kernel_rfl)⟩)
    (by kernel_rfl)
end Go.Proofs.YtoefdnbaklajeaaDoor
