/- Every call of crocuslaw08.FakeGrown returns true, on every schedule, and leaves its arguments as they were: conditions: the two listed package-level variables hold what the program's text lays. -/
import Derived.Test.YtoefdnbaklajeaaDoorB5
import Derived.Carry
import Derived.ChangeArms
import Derived.ChangeSame
import Derived.ChangeVars
import Derived.Conc.Holds
import Derived.Conc.LeavingOf
import Derived.FnData
import Derived.LaidHandle
import Derived.LaidLaws
import Derived.LaidMore
import Derived.Laws.BitsAllLaws
import Derived.Laws.BitsLemmas
import Derived.OpenShut
import Derived.RowKit
import Derived.SizedLaws
import Derived.Stop.Joined
import Derived.Test.YtoefdnbaklajeaaDoorRows
import Derived.WideShapes
set_option linter.unusedVariables false
set_option linter.unusedSimpArgs false
namespace Go.Proofs.YtoefdnbaklajeaaDoor
open Go
section
variable {C:Ctx} {b:FB} {n:Nat} {l₀ rest:List Oper} {Q:Env→List Deferred→Ro→Own→Prop} {e:Env} {ds:List Deferred} {ρ:Ro} {σ:Own}
end
section
variable {P:Program} {ρ:Ro} {e:Env} {ty t t':TypeId} {x y:Operand} {v:Value}
theorem eqGuard_str {op:BinOp} {p q:ByteArray}:eqGuard op t x y (.string p) (.string q) = pure ():=by
  cases op <;> rfl
section
variable {k:IntKind} {p q:Int}
end
end
section
variable {C:Ctx} {b:FB} {n:Nat} {l₀:List Oper} {Q:Env→List Deferred→Ro→Own→Prop} {e:Env} {ds:List Deferred} {ρ ρ₀:Ro} {σ:Own} {pz:List Nat} {fuel:Nat} {listed:Array Bool}
section
variable {d i:Nat} {op:Op} {ty:TypeId} {pos:String} {af:Array Edge} {g:Option (Nat × Bool)} {v:Value} {li:List Bool}
end
end
end Go.Proofs.YtoefdnbaklajeaaDoor

namespace Go.Proofs.YtoefdnbaklajeaaDoor
open Go
section
variable {α:Type} [Dat α] {ρ ρ':Ro}
end
section
variable {P:Program} {ρ:Ro} {σ:Own} {t:TypeId}
end
section
variable {C:Ctx} {b:FB} {n:Nat} {l₀ rest:List Oper} {Q:Env→List Deferred→Ro→Own→Prop} {e:Env} {ds:List Deferred} {ρ:Ro} {σ:Own}
variable {d:Nat} {ty:TypeId} {pos:String} {af:Array Edge} {g:Option (Nat × Bool)} {x y:Operand} {v p:Value} {t:TypeId}
/-- A slice's part. -/
theorem slice_hi {α:Type} [Dat α] {xs:List α} {a:Option Addr} {len cap h:Nat} (hv:Val ρ (.slice a len cap) xs) (hh:h ≤ len):Val ρ (.slice (if cap = 0 then a else a.map (·.add (0 * Dat.k α))) (h - 0) (cap - 0)) (xs.take h):=by
  obtain ⟨a',len',cap',h1,h2,h3,h4,h5⟩:=Cs.1 hv
  cases h1
  refine Cs.2 ⟨a,h,cap,?_,by simp; omega,by omega,by omega,fun i x hx=>?_⟩
  · congr 1
    split
    · rfl
    · cases a with
      | none=>rfl
      | some ad=>simp [Addr.add]
  · rw [List.getElem?_take] at hx
    split at hx
    · exact h5 i x hx
    · cases hx
theorem y_slice_hi {P:Program} {α:Type} [Dat α] {xs:List α} {el:TypeId} {k:IntKind} {q:Int} (h:Nat) (hT:P.underlying t = some (.slice el)) (hE:GoTy P el α) (hx:Af e x = v) (hv:Val ρ v xs) (hy:Af e y = .int k q) (hq:q = (h:Int)) (hh:h ≤ xs.length) :
    ∃ w,Val ρ w (xs.take h)∧Yld P ρ e (.slice t x none (some y) none) ty w:=by
  obtain ⟨a,len,cap,h1,h2,h3,h4,h5⟩:=Cs.1 hv
  subst h1
  refine ⟨_,slice_hi hv (by omega),Mf (s:=Instr.sliceAt t (Af e x) none (some (Af e y)) none) (fun _ _ _ _=>rfl) fun ρ' σ _=>?_⟩
  rw [hx,hy,hq]
  show wpS P ρ' ((underlying t).bind _) σ _
  rw [Ad]
  refine Az hT ?_
  show wpS P ρ' ((underlying t).bind _) σ _
  rw [Ad]
  refine Az hT ?_
  simp only []
  show wpS P ρ' ((Instr.sliceBounds true len cap none (some (.int k h)) none).bind _) σ _
  have hb:Instr.sliceBounds true len cap none (some (.int k (h:Int))) none = pure (0,h,cap):=by
    show (do let m ← pure cap; let hh ← Instr.sliceBound (.int k (h:Int)) m _; let l ← pure 0; pure (l,hh,m):Sem _) = _
    have:Instr.sliceBound (.int k (h:Int)) cap .sliceAcap = pure h:=by
      show (if 0 ≤ (h:Int)∧(h:Int) ≤ cap then pure (h:Int).toNat else _) = _
      rw [if_pos (by omega)]; simp
    show (Instr.sliceBound (.int k (h:Int)) cap .sliceAcap).bind _ = _
    rw [this]; rfl
  rw [hb]
  show wpS P ρ' ((sizeOf el).bind _) σ _
  rw [Ad]
  exact Dw hE.info ⟨rfl,rfl⟩
end
end Go.Proofs.YtoefdnbaklajeaaDoor

namespace Go.Proofs.YtoefdnbaklajeaaDoor
open Go
section
variable {C:Ctx} {b:FB} {n:Nat} {l₀ rest:List Oper} {Q:Env→List Deferred→Ro→Own→Prop} {Q':Hv} {e:Env} {ds:List Deferred} {ρ:Ro} {σ:Own}
variable {d:Nat} {ty:TypeId} {pos:String} {af:Array Edge} {g:Option (Nat × Bool)} {x y:Operand} {v p:Value} {t t':TypeId}
section
variable {P:Program}
theorem y_rem {k:IntKind} {p q z:Int} (hx:Af e x = .int k p) (hy:Af e y = .int k q) (h0:q ≠ 0) (hz:p.tmod q = z):Yld P ρ e (.binOp .rem t x y t') ty (.int k z) :=
  Ju hx hy Dh (by subst hz; simp only [binOp]; rw [if_neg (by simp)]; unfold Op.intDiv; rw [if_neg h0])
end
section
variable {P:Program}
theorem y_eqs {p q:ByteArray} (hx:Af e x = .string p) (hy:Af e y = .string q):Yld P ρ e (.binOp .eql t x y t') ty (.bool (p.toList == q.toList)):=Ju hx hy eqGuard_str (by simp only [binOp]; rfl)
end
end
end Go.Proofs.YtoefdnbaklajeaaDoor

namespace Go.Proofs.YtoefdnbaklajeaaDoor
open Go Go.WideShapes
theorem reach_lt {n:Nat} (h:n ≤ reachBytes):n < 2 ^ 60:=by unfold reachBytes at h; omega
theorem dec_int {t:TypeId} (ht:Tryd.prog.underlying t = some (.int .i64)) (hc:Tryd.prog.cellsOf t = 1):Apq Int t :=
  ⟨hc,fun H enc W fuel cs x h _=>by
    obtain ⟨n,h1,_,h3⟩:=DataW.trod_int ht h
    refine ⟨n,h1,?_⟩
    simp [Lit.wf,IntKind.min,IntKind.max,IntKind.signed,IntKind.bits] at h3
    exact ⟨by omega,by omega⟩⟩
theorem dec_str {t:TypeId} (ht:Tryd.prog.underlying t = some .string) (hc:Tryd.prog.cellsOf t = 1):Apq ByteArray t :=
  ⟨hc,fun H enc W fuel cs x h hw=>by
    obtain ⟨s,h1,h2,_⟩:=DataW.trod_string ht h
    refine ⟨s,h1,reach_lt ?_⟩
    have:=hw s.data.toList.length (by rw [h2]; simp [DataW.weights])
    simpa using this⟩
theorem list_of {α:Type} {P:Nat→α→Prop}:∀ n,(∀ i,i < n→∃ a,P i a)→∃ xs:List α,xs.length = n∧∀ i x,xs[i]? = some x→P i x
  | 0,_=>⟨[],rfl,fun i x h=>by cases h⟩
  | n + 1,h=>by
    obtain ⟨xs,h1,h2⟩:=list_of n fun i hi=>h i (by omega)
    obtain ⟨a,ha⟩:=h n (by omega)
    refine ⟨xs ++ [a],by simp [h1],fun i x hx=>?_⟩
    rcases Nat.lt_or_ge i n with hlt | hge
    · rw [List.getElem?_append_left (by omega)] at hx; exact h2 i x hx
    · have hi:i = n:=by
        have:=(List.getElem?_eq_some_iff.1 hx).1
        simp only [List.length_append,List.length_singleton] at this; omega
      subst hi
      rw [List.getElem?_append_right (by omega),h1,Nat.sub_self] at hx
      cases hx; exact ha
theorem add_0 {a:Addr}:a.add 0 = a:=by simp [Addr.add]
theorem add_none {b off i:Nat}:(⟨b,off,none⟩:Addr).add i = ⟨b,off + i,none⟩:=by
  unfold Addr.add; split
  · rename_i h; subst h; rfl
  · rfl
theorem row_cells {W:World} {a:Addr} {k:Nat} {cs:List Value} (hk:1 ≤ k) (h:W.cells? 0 a k = some cs):∃ b off c t fz rest,a = ⟨b,off,none⟩∧W.heap[b]? = some (.cells c t fz)∧c.toList.drop off = cs ++ rest∧cs.length = k:=by
  unfold World.cells? at h
  rw [if_pos (Nat.zero_le _)] at h
  have hl:=mapM_some_length h
  rw [List.length_range] at hl
  have hg:∀ j,j < k→W.cell? (a.add j) = cs[j]?:=fun j hj=>mapM_some_get h j j (by rw [List.getElem?_range hj])
  obtain ⟨b,off,spot⟩:=a
  have h0:=hg 0 hk
  rw [add_0] at h0
  obtain ⟨v,hv⟩:∃ v,cs[0]? = some v:=⟨_,List.getElem?_eq_getElem (by omega)⟩
  rw [hv] at h0
  unfold World.cell? at h0
  simp only at h0
  cases hb:W.heap[b]? with
  | none=>rw [hb] at h0; cases h0
  | some o =>
    cases o with
    | cells c t fz =>
      rw [hb] at h0
      simp only at h0
      cases spot with
      | some s=>simp at h0
      | none =>
        refine ⟨b,off,c,t,fz,(c.toList.drop off).drop k,rfl,hb,?_,hl⟩
        have e1:(c.toList.drop off).take k = cs:=by
          apply List.ext_getElem?
          intro j
          rw [List.getElem?_take]
          by_cases hj:j < k
          · rw [if_pos hj,← hg j hj,List.getElem?_drop,add_none]
            unfold World.cell?
            simp only [hb]
            simp
          · rw [if_neg hj,List.getElem?_eq_none (by omega)]
        rw [← e1,List.take_append_drop]
    | _=>rw [hb] at h0; cases h0
theorem weightsAll_mem {H:Type} {P:Program} {e:TypeId}:∀ {ds:List (DataW H)} {d:DataW H} {n:Nat},d ∈ ds→n ∈ d.weights P e→n ∈ DataW.weightsAll P e ds
  | [],_,_,h,_=>by cases h
  | d' :: ds,d,n,h,hn=>by
    rw [DataW.weightsAll,List.mem_append]
    rcases List.mem_cons.1 h with rfl | h
    · exact .inl hn
    · exact .inr (weightsAll_mem h hn)
theorem dec_list {α:Type} [Dat α] {t e:TypeId} (ht:Tryd.prog.underlying t = some (.slice e)) (hc:Tryd.prog.cellsOf t = 1) (hb:1 ≤ Tryd.prog.bytesOf e) (hk:1 ≤ Dat.k α) (he:Apq α e):Apq (List α) t :=
  ⟨hc,fun H enc W fuel cs x h hw=>by
    rcases DataW.trod_slice ht h with ⟨h1,_⟩ | ⟨a,len,cap,Av,rest,n,_,h2,h3,_,h5,_,h6,h7,_,_⟩
    · exact ⟨[],_,h1,none,0,0,rfl,rfl,by omega,Nat.le_refl _,fun i x hx=>by cases hx⟩
    · rw [h3] at hw
      simp only [DataW.weights,ht] at hw
      have hlen:len < 2 ^ 60:=by
        have:=hw _ (List.mem_cons_self ..)
        simp only [List.length_map] at this
        refine reach_lt (Nat.le_trans ?_ this)
        rw [h6]
        exact Nat.le_trans (Nat.le_trans (Nat.le_add_right _ _) (Nat.le_of_eq (Nat.mul_one _).symm)) (Nat.mul_le_mul_left _ hb)
      obtain ⟨xs,hx1,hx2⟩:=list_of (P:=fun i (y:α)=>∃ cs,W.cells? 0 (a.add (i * Tryd.prog.cellsOf e)) (Tryd.prog.cellsOf e) = some cs∧Dat.rep (roW W) cs y) len fun i hi=>by
        have h8:=h7 i hi
        obtain ⟨y,hy⟩:∃ y,Av[i]? = some y:=⟨_,List.getElem?_eq_getElem (by omega)⟩
        rw [hy,Option.bind_eq_some_iff] at h8
        obtain ⟨ci,hc1,hc2⟩:=h8
        obtain ⟨z,hz⟩:=he.2 H enc W n ci y hc2 fun m hm=>hw m (List.mem_cons_of_mem _ (List.mem_append_left _ (weightsAll_mem (List.mem_map_of_mem (List.mem_of_getElem? hy)) hm)))
        exact ⟨z,ci,hc1,hz⟩
      refine ⟨xs,_,h2,some a,len,cap,rfl,hx1,hlen,h5,fun i y hy=>?_⟩
      obtain ⟨b',off',rfl⟩:∃ b' off',a = ⟨b',off',none⟩:=by
        have hi:=(List.getElem?_eq_some_iff.1 hy).1
        obtain ⟨y0,hy0⟩:∃ y0,xs[0]? = some y0:=⟨_,List.getElem?_eq_getElem (by omega)⟩
        obtain ⟨ci,hc1,_⟩:=hx2 0 y0 hy0
        rw [he.1,Nat.zero_mul,add_0] at hc1
        obtain ⟨b,off,_,_,_,_,h8,_⟩:=row_cells hk hc1
        exact ⟨b,off,h8⟩
      obtain ⟨ci,hc1,hc2⟩:=hx2 i y hy
      rw [he.1,add_none] at hc1
      obtain ⟨b,off,c,t',fz,rs,h8,h9,h10,_⟩:=row_cells hk hc1
      simp only [Addr.mk.injEq,and_true] at h8
      obtain ⟨rfl,rfl⟩:=h8
      exact ⟨b',off',rfl,b',_,c,t',fz,ci,rs,rfl,Vs h9,hc2,h10⟩⟩
theorem cut_at (cs:List Value) (a k:Nat):cs.drop a = (cs.drop a).take k ++ cs.drop (a + k):=by rw [← List.drop_drop,List.take_append_drop]
theorem field_at {H:Type} {enc:TypeId × Value→H} {W:World} {n:Nat} {cs:List Value} {xs:List (DataW H × List MemPlace)} {fs:Array Field} {t:TypeId} (ht:Tryd.prog.underlying t = some (.struct fs)) (hl:xs.length = fs.size) (h:∀ (i:Nat) (f:Field),fs[i]? = some f→DataW.trod enc Tryd.prog W 0 (fun _=>true) true n f.type ((cs.drop f.offset).take (Tryd.prog.cellsOf f.type)) = xs[i]?)
    (hw:∀ m ∈ (DataW.agg (xs.map (·.1)):DataW H).weights Tryd.prog t,m ≤ reachBytes) {α:Type} [Dat α] {i ft off:Nat} {f:Field} (hf:fs[i]? = some f) (h1:f.type = ft) (h2:f.offset = off) (hd:Apq α ft):∃ a:α,Dat.rep (roW W) ((cs.drop off).take (Dat.k α)) a:=by
  subst h1 h2
  have hi:=(Array.getElem?_eq_some_iff.1 hf).1
  obtain ⟨y,hy⟩:∃ y,xs[i]? = some y:=⟨_,List.getElem?_eq_getElem (by omega)⟩
  have h3:=h i f hf
  rw [hy,hd.1] at h3
  refine hd.2 H enc W n _ y h3 fun m hm=>hw m ?_
  simp only [DataW.weights,ht]
  exact DataW.weights_mem_each (j:=i) (t:=f.type) (d:=y.1) (by simp [Array.getElem?_toList,hf]) (by simp [hy]) m hm
theorem dec65:Apq Span 65:=⟨by kernel_rfl,fun H enc W fuel cs x h hw=>by
  obtain ⟨xs,n,_,rfl,hcl,hl,hf⟩:=DataW.trod_struct Tryd.underlying65 h
  rw [show Tryd.prog.cellsOf 65 = 2 from by kernel_rfl] at hcl
  obtain ⟨a0,r0⟩:=field_at (i:=0) Tryd.underlying65 hl hf hw rfl rfl (show _ = 0 from rfl) (dec_int Tryd.underlying3 (by kernel_rfl))
  obtain ⟨a1,r1⟩:=field_at (i:=1) Tryd.underlying65 hl hf hw rfl rfl (show _ = 1 from rfl) (dec_int Tryd.underlying3 (by kernel_rfl))
  refine ⟨⟨a0,a1⟩,?_⟩
  have e0:cs = cs.drop 0:=rfl
  rw [e0]
  exact ⟨(cs.drop 0).take 1,cs.drop 1,(cut_at cs 0 1).trans (by rfl),r0,(show Dat.rep (roW W) (cs.drop 1) a1 from by (have:=r1; rw [List.take_of_length_le (by rw [List.length_drop,hcl]; decide)] at this; exact this))⟩⟩
theorem dec67:Apq FField 67:=⟨by kernel_rfl,fun H enc W fuel cs x h hw=>by
  obtain ⟨xs,n,_,rfl,hcl,hl,hf⟩:=DataW.trod_struct Tryd.underlying67 h
  rw [show Tryd.prog.cellsOf 67 = 5 from by kernel_rfl] at hcl
  obtain ⟨a0,r0⟩:=field_at (i:=0) Tryd.underlying67 hl hf hw rfl rfl (show _ = 0 from rfl) (dec_str Tryd.underlying9 (by kernel_rfl))
  obtain ⟨a1,r1⟩:=field_at (i:=1) Tryd.underlying67 hl hf hw rfl rfl (show _ = 1 from rfl) (dec_int Tryd.underlying3 (by kernel_rfl))
  obtain ⟨a2,r2⟩:=field_at (i:=2) Tryd.underlying67 hl hf hw rfl rfl (show _ = 2 from rfl) dec65
  obtain ⟨a3,r3⟩:=field_at (i:=3) Tryd.underlying67 hl hf hw rfl rfl (show _ = 4 from rfl) (dec_list Tryd.underlying27 (by kernel_rfl) (Nat.le_of_ble_eq_true (by kernel_rfl)) (by decide) dec65)
  refine ⟨⟨a0,a1,a2,a3⟩,?_⟩
  have e0:cs = cs.drop 0:=rfl
  rw [e0]
  exact ⟨(cs.drop 0).take 1,cs.drop 1,(cut_at cs 0 1).trans (by rfl),r0,⟨(cs.drop 1).take 1,cs.drop 2,(cut_at cs 1 1).trans (by rfl),r1,⟨(cs.drop 2).take 2,cs.drop 4,(cut_at cs 2 2).trans (by rfl),r2,(show Dat.rep (roW W) (cs.drop 4) a3 from by (have:=r3; rw [List.take_of_length_le (by rw [List.length_drop,hcl]; decide)] at this; exact this))⟩⟩⟩⟩
theorem dec59:Apq Sale 59:=⟨by kernel_rfl,fun H enc W fuel cs x h hw=>by
  obtain ⟨xs,n,_,rfl,hcl,hl,hf⟩:=DataW.trod_struct Tryd.underlying59 h
  rw [show Tryd.prog.cellsOf 59 = 2 from by kernel_rfl] at hcl
  obtain ⟨a0,r0⟩:=field_at (i:=0) Tryd.underlying59 hl hf hw rfl rfl (show _ = 0 from rfl) (dec_int Tryd.underlying3 (by kernel_rfl))
  obtain ⟨a1,r1⟩:=field_at (i:=1) Tryd.underlying59 hl hf hw rfl rfl (show _ = 1 from rfl) (dec_list Tryd.underlying30 (by kernel_rfl) (Nat.le_of_ble_eq_true (by kernel_rfl)) (by decide) (dec_int Tryd.underlying3 (by kernel_rfl)))
  refine ⟨⟨a0,a1⟩,?_⟩
  have e0:cs = cs.drop 0:=rfl
  rw [e0]
  exact ⟨(cs.drop 0).take 1,cs.drop 1,(cut_at cs 0 1).trans (by rfl),r0,(show Dat.rep (roW W) (cs.drop 1) a1 from by (have:=r1; rw [List.take_of_length_le (by rw [List.length_drop,hcl]; decide)] at this; exact this))⟩⟩
theorem dec26:Apq Market 26:=⟨by kernel_rfl,fun H enc W fuel cs x h hw=>by
  obtain ⟨xs,n,_,rfl,hcl,hl,hf⟩:=DataW.trod_struct Tryd.underlying26 h
  rw [show Tryd.prog.cellsOf 26 = 4 from by kernel_rfl] at hcl
  obtain ⟨a0,r0⟩:=field_at (i:=0) Tryd.underlying26 hl hf hw rfl rfl (show _ = 0 from rfl) (dec_list Tryd.underlying22 (by kernel_rfl) (Nat.le_of_ble_eq_true (by kernel_rfl)) (by decide) (dec_str Tryd.underlying9 (by kernel_rfl)))
  obtain ⟨a1,r1⟩:=field_at (i:=1) Tryd.underlying26 hl hf hw rfl rfl (show _ = 1 from rfl) (dec_list Tryd.underlying22 (by kernel_rfl) (Nat.le_of_ble_eq_true (by kernel_rfl)) (by decide) (dec_str Tryd.underlying9 (by kernel_rfl)))
  obtain ⟨a2,r2⟩:=field_at (i:=2) Tryd.underlying26 hl hf hw rfl rfl (show _ = 2 from rfl) (dec_list Tryd.underlying23 (by kernel_rfl) (Nat.le_of_ble_eq_true (by kernel_rfl)) (by decide) dec67)
  obtain ⟨a3,r3⟩:=field_at (i:=3) Tryd.underlying26 hl hf hw rfl rfl (show _ = 3 from rfl) (dec_list Tryd.underlying24 (by kernel_rfl) (Nat.le_of_ble_eq_true (by kernel_rfl)) (by decide) dec59)
  refine ⟨⟨a0,a1,a2,a3⟩,?_⟩
  have e0:cs = cs.drop 0:=rfl
  rw [e0]
  exact ⟨(cs.drop 0).take 1,cs.drop 1,(cut_at cs 0 1).trans (by rfl),r0,⟨(cs.drop 1).take 1,cs.drop 2,(cut_at cs 1 1).trans (by rfl),r1,⟨(cs.drop 2).take 1,cs.drop 3,(cut_at cs 2 1).trans (by rfl),r2,(show Dat.rep (roW W) (cs.drop 3) a3 from by (have:=r3; rw [List.take_of_length_le (by rw [List.length_drop,hcl]; decide)] at this; exact this))⟩⟩⟩⟩
end Go.Proofs.YtoefdnbaklajeaaDoor

namespace Go.Proofs.YtoefdnbaklajeaaDoor
open Go Go.WideShapes Go.ChangeShapes Go.RowKit Go.Conc
section
variable {H:Type} {enc:TypeId × Value→H} {W:World} {r:Reach} {base t:Nat} {v:Value} {d:DataW H} {p:List MemPlace}
end
theorem weights_at {H:Type} {P:Program} {ts:List TypeId} {ds:List (DataW H)} (h:(DataW.weightsEach P ts ds).all (· ≤ reachBytes) = true) {j:Nat} {t:TypeId} {d:DataW H} (ht:ts[j]? = some t) (hd:ds[j]? = some d):∀ n ∈ d.weights P t,n ≤ reachBytes:=fun n hn=>by
  have:=List.all_eq_true.1 h _ (DataW.weights_mem_each ht hd n hn)
  simpa using this
end Go.Proofs.YtoefdnbaklajeaaDoor

namespace Go.Proofs.YtoefdnbaklajeaaDoor
open Go
theorem okAll_t {s:ByteArray}:(List.range s.size).all (Alz s) = true↔∀ j,j < s.size→Alz s j = true:=by simp
theorem okAll_f {s:ByteArray} {j:Nat} (h:j < s.size) (h0:Alz s j = false):(List.range s.size).all (Alz s) = false:=by
  cases hh:(List.range s.size).all (Alz s) with
  | false=>rfl
  | true=>rw [okAll_t.1 hh j h] at h0; cases h0
theorem range_filter {p:Nat→Bool} {i:Nat}:((List.range (i + 1)).filter p).map Int.ofNat = ((List.range i).filter p).map Int.ofNat ++ (if p i then [(i:Int)] else []):=by
  rw [List.range_succ,List.filter_append,List.map_append]
  congr 1
  cases h:p i <;> simp [List.filter,h]
end Go.Proofs.YtoefdnbaklajeaaDoor

namespace Go.Proofs.YtoefdnbaklajeaaDoor
open Go
set_option maxRecDepth 100000 in
theorem c_In {mn:Bool} {X:Frame→List Frame→Ro→Own→Cy→Prop} {ρ:Ro} {σ:Own} {n low high:Int} :CallsH (CX mn X) 79 #[(iV (n)),(iV (low)),(iV (high))] ρ σ (fun w ρ' σ'=>ρ' = ρ∧σ' = σ∧w = (.bool (inR n low high))):=by
 refine Bh (n:=15) (args:=[(iV (n)),(iV (low)),(iV (high))]) [6] Tryd.func79 rfl rfl rfl rfl fun Q hret hnor=>?_
 refine w_q rfl rfl fun K1 k1=>?_
 refine l_A (.bool (false)) rfl rfl ?_
 apply Ac
 apply k1
 refine w_q rfl rfl fun K2 k2=>?_
 refine l_M (iV (low)) rfl rfl ?_
 refine l_M (iV (n)) rfl rfl ?_
 refine Aa rfl (Tx (p:=low) (q:=n) rfl rfl) ?_
 refine l_M (.bool (decide (low ≤ n))) rfl rfl ?_
 refine Cn (decide (low ≤ n)) (fun b3=>?_) (fun b3=>?_)
 ·have q3:=of_decide_eq_true b3
  refine l_M (iV (n)) (Ar rfl rfl rfl b3) rfl ?_
  refine l_M (iV (high)) (Ar rfl rfl rfl b3) rfl ?_
  refine Aa (Ar rfl rfl rfl b3) (Tx (p:=n) (q:=high) rfl rfl) ?_
  refine Aa rfl (Bt rfl b3 (v:=(.bool (decide (n ≤ high)))) rfl) ?_
  refine l_A (.bool (decide (n ≤ high))) rfl rfl ?_
  apply Ac
  apply k2
  refine Aq ?_
  refine hret _ _ _ ?_
  refine ⟨rfl,rfl,Eq.trans (b:=(.bool (decide (n ≤ high)))) rfl ?_⟩
  simp only [inR,b3,Bool.true_and,Bool.false_and,Bool.and_true,Bool.and_false,Bool.true_or,Bool.false_or,Bool.or_true,Bool.or_false,Bool.not_true,Bool.not_false]
 have q3:=of_decide_eq_false b3
 refine Ap (Bl rfl rfl rfl b3) ?_
 refine Ap (Bl rfl rfl rfl b3) ?_
 refine Ap (Bl rfl rfl rfl b3) ?_
 refine Aa rfl (Bm rfl b3 (v:=(.bool (false))) rfl) ?_
 refine l_A (.bool (false)) rfl rfl ?_
 apply Ac
 apply k2
 refine Aq ?_
 refine hret _ _ _ ?_
 refine ⟨rfl,rfl,Eq.trans (b:=(.bool (false))) rfl ?_⟩
 simp only [inR,b3,Bool.true_and,Bool.false_and,Bool.and_true,Bool.and_false,Bool.true_or,Bool.false_or,Bool.or_true,Bool.or_false,Bool.not_true,Bool.not_false]
set_option maxRecDepth 100000 in
theorem c_Inside {mn:Bool} {X:Frame→List Frame→Ro→Own→Cy→Prop} {ρ:Ro} {σ:Own} {x:Span} {vx:Value} {low high:Int} (rx:Val ρ vx x):CallsH (CX mn X) 80 #[vx,(iV (low)),(iV (high))] ρ σ (fun w ρ' σ'=>ρ' = ρ∧σ' = σ∧w = (.bool (Eg x low high))):=by
 refine Bh (n:=24) (args:=[vx,(iV (low)),(iV (high))]) [6] Tryd.func80 rfl rfl rfl rfl fun Q hret hnor=>?_
 refine w_q rfl rfl fun K1 k1=>?_
 refine Ae rfl (Eb (v:=vx) rfl fun k2=>?_)
 refine Bb (a:=x) rx fun ρ2 l2 r2=>?_
 replace rx:=Asa l2 rx
 refine l_A (.bool (false)) rfl rfl ?_
 apply Ac
 apply k1
 refine w_q rfl rfl fun K3 k3=>?_
 refine l_M (iV (low)) rfl rfl ?_
 refine Ak rfl (Ay Span.f_low Tryd.underlying65 rfl rfl ty3 (by decide) rfl r2) fun v4 r4=>?_
 have ⟨g5a,g5b⟩:=At.rng r4
 refine Aa rfl (Bc ty3 rfl r4) ?_
 refine Aa rfl (Tx (p:=low) (q:=x.low) rfl rfl) ?_
 refine l_M (.bool (decide (low ≤ x.low))) rfl rfl ?_
 refine Cn (decide (low ≤ x.low)) (fun b6=>?_) (fun b6=>?_)
 ·have q6:=of_decide_eq_true b6
  refine Ak (Ar rfl rfl rfl b6) (Ay Span.f_low Tryd.underlying65 rfl rfl ty3 (by decide) rfl r2) fun v7 r7=>?_
  have ⟨g8a,g8b⟩:=At.rng r7
  refine Aa (Ar rfl rfl rfl b6) (Bc ty3 rfl r7) ?_
  refine Ak (Ar rfl rfl rfl b6) (Ay Span.f_high Tryd.underlying65 rfl rfl ty3 (by decide) rfl r2) fun v9 r9=>?_
  have ⟨g10a,g10b⟩:=At.rng r9
  refine Aa (Ar rfl rfl rfl b6) (Bc ty3 rfl r9) ?_
  refine Aa (Ar rfl rfl rfl b6) (Tx (p:=x.low) (q:=x.high) rfl rfl) ?_
  refine Aa rfl (Bt rfl b6 (v:=(.bool (decide (x.low ≤ x.high)))) rfl) ?_
  refine l_M (.bool (decide (x.low ≤ x.high))) rfl rfl ?_
  refine Cn (decide (x.low ≤ x.high)) (fun b11=>?_) (fun b11=>?_)
  ·have q11:=of_decide_eq_true b11
   refine Ak (Ar rfl rfl rfl b11) (Ay Span.f_high Tryd.underlying65 rfl rfl ty3 (by decide) rfl r2) fun v12 r12=>?_
   have ⟨g13a,g13b⟩:=At.rng r12
   refine Aa (Ar rfl rfl rfl b11) (Bc ty3 rfl r12) ?_
   refine l_M (iV (high)) (Ar rfl rfl rfl b11) rfl ?_
   refine Aa (Ar rfl rfl rfl b11) (Tx (p:=x.high) (q:=high) rfl rfl) ?_
   refine Aa rfl (Bt rfl b11 (v:=(.bool (decide (x.high ≤ high)))) rfl) ?_
   refine l_A (.bool (decide (x.high ≤ high))) rfl rfl ?_
   apply Ac
   apply k3
   refine Aj (Arw l2) ?_
   refine Aq ?_
   refine hret _ _ _ ?_
   refine ⟨rfl,rfl,Eq.trans (b:=(.bool (decide (x.high ≤ high)))) rfl ?_⟩
   simp only [Eg,b6,b11,Bool.true_and,Bool.false_and,Bool.and_true,Bool.and_false,Bool.true_or,Bool.false_or,Bool.or_true,Bool.or_false,Bool.not_true,Bool.not_false]
  have q11:=of_decide_eq_false b11
  refine Ap (Bl rfl rfl rfl b11) ?_
  refine Ap (Bl rfl rfl rfl b11) ?_
  refine Ap (Bl rfl rfl rfl b11) ?_
  refine Ap (Bl rfl rfl rfl b11) ?_
  refine Aa rfl (Bm rfl b11 (v:=(.bool (false))) rfl) ?_
  refine l_A (.bool (false)) rfl rfl ?_
  apply Ac
  apply k3
  refine Aj (Arw l2) ?_
  refine Aq ?_
  refine hret _ _ _ ?_
  refine ⟨rfl,rfl,Eq.trans (b:=(.bool (false))) rfl ?_⟩
  simp only [Eg,b6,b11,Bool.true_and,Bool.false_and,Bool.and_true,Bool.and_false,Bool.true_or,Bool.false_or,Bool.or_true,Bool.or_false,Bool.not_true,Bool.not_false]
 have q6:=of_decide_eq_false b6
 refine Ap (Bl rfl rfl rfl b6) ?_
 refine Ap (Bl rfl rfl rfl b6) ?_
 refine Ap (Bl rfl rfl rfl b6) ?_
 refine Ap (Bl rfl rfl rfl b6) ?_
 refine Ap (Bl rfl rfl rfl b6) ?_
 refine Aa rfl (Bm rfl b6 (v:=(.bool (false))) rfl) ?_
 refine l_M (.bool (false)) rfl rfl ?_
 refine Ap (Bl rfl rfl rfl rfl) ?_
 refine Ap (Bl rfl rfl rfl rfl) ?_
 refine Ap (Bl rfl rfl rfl rfl) ?_
 refine Ap (Bl rfl rfl rfl rfl) ?_
 refine Aa rfl (Bm rfl rfl (v:=(.bool (false))) rfl) ?_
 refine l_A (.bool (false)) rfl rfl ?_
 apply Ac
 apply k3
 refine Aj (Arw l2) ?_
 refine Aq ?_
 refine hret _ _ _ ?_
 refine ⟨rfl,rfl,Eq.trans (b:=(.bool (false))) rfl ?_⟩
 simp only [Eg,b6,Bool.true_and,Bool.false_and,Bool.and_true,Bool.and_false,Bool.true_or,Bool.false_or,Bool.or_true,Bool.or_false,Bool.not_true,Bool.not_false]
set_option maxRecDepth 100000 in
theorem c_Name {mn:Bool} {X:Frame→List Frame→Ro→Own→Cy→Prop} {ρ:Ro} {σ:Own} {s:ByteArray} :CallsH (CX mn X) 78 #[(.string (s))] ρ σ (fun w ρ' σ'=>ρ' = ρ∧σ' = σ∧w = (.bool (Hi s))):=by
 refine Bh (n:=46) (args:=[(.string (s))]) [2] Tryd.func78 rfl rfl rfl rfl fun Q hret hnor=>?_
 refine w_q rfl rfl fun K1 k1=>?_
 refine l_A (.bool (false)) rfl rfl ?_
 apply Ac
 apply k1
 refine Ai fun K2 k2=>?_
 refine w_q rfl rfl fun K3 k3=>?_
 refine l_M (.string (s)) rfl rfl ?_
 refine Aa rfl (Afb Tryd.underlying9 (s:=s) rfl) ?_
 refine Ae rfl (Bn (vs:=[(iV (((s.size:Nat):Int))),(iV (1)),(iV (14))]) (v:=(.bool (inR (((s.size:Nat):Int)) 1 14))) (c_In) Tryd.func79 rfl rfl ⟨rfl,rfl,rfl,trivial⟩ ?_)
 refine Aa rfl (Ix (k:=inR (((s.size:Nat):Int)) 1 14) rfl) ?_
 refine l_M (.bool (!(inR (((s.size:Nat):Int)) 1 14))) rfl rfl ?_
 refine Cn (!(inR (((s.size:Nat):Int)) 1 14)) (fun b4=>?_) (fun b4=>?_)
 ·have b5:=not_eq_t b4
  have q5:=Ui.1 b5
  refine Ap (Bl rfl rfl rfl b4) ?_
  refine Ap (Bl rfl rfl rfl b4) ?_
  refine Ap (Bl rfl rfl rfl b4) ?_
  refine Aa rfl (Bt rfl b4 (v:=(.bool (true))) rfl) ?_
  refine l_M (.bool (true)) rfl rfl ?_
  refine Ap (Bl rfl rfl rfl rfl) ?_
  refine Ap (Bl rfl rfl rfl rfl) ?_
  refine Ap (Bl rfl rfl rfl rfl) ?_
  refine Aa rfl (Bt rfl rfl (v:=(.bool (true))) rfl) ?_
  apply Ac
  apply k3
  refine Co rfl rfl ?_
  refine w_q rfl rfl fun K6 k6=>?_
  refine l_A (.bool (false)) rfl rfl ?_
  apply Ac
  apply k6
  refine Aq ?_
  refine hret _ _ _ ?_
  refine ⟨rfl,rfl,Eq.trans (b:=(.bool (false))) rfl ?_⟩
  simp only [Hi,Pu,b4,b5,Bool.true_and,Bool.false_and,Bool.and_true,Bool.and_false,Bool.true_or,Bool.false_or,Bool.or_true,Bool.or_false,Bool.not_true,Bool.not_false]
 have b7:=not_eq_f b4
 have q7:=Ge.1 b7
 refine l_M (.string (s)) (Ar rfl rfl rfl b4) rfl ?_
 obtain ⟨c8,hc8⟩:=Alh (s:=s) (i:=0) (by omega)
 refine Aa (Ar rfl rfl rfl b4) (Aaw 0 c8 Tryd.underlying9 rfl (q:=0) rfl rfl hc8) ?_
 refine Aa (Ar rfl rfl rfl b4) (Da (p:=((c8.toNat:Nat):Int)) (q:=97) rfl rfl) ?_
 refine Aa rfl (Bm rfl b4 (v:=(.bool (decide (((c8.toNat:Nat):Int) < 97)))) rfl) ?_
 refine l_M (.bool (decide (((c8.toNat:Nat):Int) < 97))) rfl rfl ?_
 refine Cn (decide (((c8.toNat:Nat):Int) < 97)) (fun b9=>?_) (fun b9=>?_)
 ·have q9:=of_decide_eq_true b9
  refine Ap (Bl rfl rfl rfl b9) ?_
  refine Ap (Bl rfl rfl rfl b9) ?_
  refine Ap (Bl rfl rfl rfl b9) ?_
  refine Aa rfl (Bt rfl b9 (v:=(.bool (true))) rfl) ?_
  apply Ac
  apply k3
  refine Co rfl rfl ?_
  refine w_q rfl rfl fun K10 k10=>?_
  refine l_A (.bool (false)) rfl rfl ?_
  apply Ac
  apply k10
  refine Aq ?_
  refine hret _ _ _ ?_
  refine ⟨rfl,rfl,Eq.trans (b:=(.bool (false))) rfl ?_⟩
  simp only [Hi,Pu,hc8,b4,b7,b9,Bool.true_and,Bool.false_and,Bool.and_true,Bool.and_false,Bool.true_or,Bool.false_or,Bool.or_true,Bool.or_false,Bool.not_true,Bool.not_false]
 have q9:=of_decide_eq_false b9
 refine l_M (.string (s)) (Ar rfl rfl rfl b9) rfl ?_
 refine Aa (Ar rfl rfl rfl b9) (Aaw 0 c8 Tryd.underlying9 rfl (q:=0) rfl rfl hc8) ?_
 refine Aa (Ar rfl rfl rfl b9) (Gk (p:=((c8.toNat:Nat):Int)) (q:=122) rfl rfl) ?_
 refine Aa rfl (Bm rfl b9 (v:=(.bool (decide (((c8.toNat:Nat):Int) > 122)))) rfl) ?_
 apply Ac
 apply k3
 refine As (t:=decide (((c8.toNat:Nat):Int) > 122)) rfl (fun b12=>?_) (fun b12=>?_)
 ·have q12:=of_decide_eq_true b12
  refine w_q rfl rfl fun K13 k13=>?_
  refine l_A (.bool (false)) rfl rfl ?_
  apply Ac
  apply k13
  refine Aq ?_
  refine hret _ _ _ ?_
  refine ⟨rfl,rfl,Eq.trans (b:=(.bool (false))) rfl ?_⟩
  simp only [Hi,Pu,hc8,b4,b7,b9,b12,Bool.true_and,Bool.false_and,Bool.and_true,Bool.and_false,Bool.true_or,Bool.false_or,Bool.or_true,Bool.or_false,Bool.not_true,Bool.not_false]
 have q12:=of_decide_eq_false b12
 refine Al ?_
 apply k2
 refine Ai fun K14 k14=>?_
 refine w_q rfl rfl fun K15 k15=>?_
 refine l_A (iV (0)) rfl rfl ?_
 apply Ac
 apply k15
 refine Ao ?_
 refine Cc (fun mm ee dd ρ' σ'=>∃ (i:Nat),(s.size - i) = mm∧[] = dd∧ρ = ρ'∧σ = σ'∧ee 0 = (.string (s))∧ee 3 = (iV ((i:Int)))∧(i ≤ s.size)∧(∀ j,j < i→Alz s j = true)∧True) (m:=_) ⟨0,rfl,rfl,rfl,rfl,rfl,rfl,(Nat.zero_le _),(fun j h=>absurd h (Nat.not_lt_zero _)),trivial⟩ ?_
 rintro m16 e16 _ _ _ ⟨i,rfl,rfl,rfl,rfl,h16_0,h16_3,p16_0,p16_1,_⟩
 refine Ai fun K17 k17=>?_
 refine w_q rfl rfl fun K18 k18=>?_
 refine Aa rfl (Ah (v:=(iV ((i:Int)))) h16_3) ?_
 refine Aa rfl (Ah (v:=(.string (s))) h16_0) ?_
 refine Aa rfl (Afb Tryd.underlying9 (s:=s) rfl) ?_
 refine Aa rfl (Da (p:=(i:Int)) (q:=((s.size:Nat):Int)) rfl rfl) ?_
 apply Ac
 apply k18
 refine As (t:=decide ((i:Int) < ((s.size:Nat):Int))) rfl (fun b19=>?_) (fun b19=>?_)
 ·have q19:=of_decide_eq_true b19
  refine Al ?_
  apply k17
  refine Ai fun K20 k20=>?_
  refine Ao ?_
  refine w_q rfl rfl fun K21 k21=>?_
  refine Aa rfl (Ah (v:=(.string (s))) h16_0) ?_
  refine Aa rfl (Ah (v:=(iV ((i:Int)))) h16_3) ?_
  obtain ⟨c22,hc22⟩:=Alh (s:=s) (i:=i) (by omega)
  refine Aa rfl (Aaw i c22 Tryd.underlying9 rfl (q:=(i:Int)) rfl rfl hc22) ?_
  refine l_A (.int .u8 (((c22.toNat:Nat):Int))) rfl rfl ?_
  apply Ac
  apply k21
  refine w_q rfl rfl fun K23 k23=>?_
  refine l_M (.int .u8 (((c22.toNat:Nat):Int))) rfl rfl ?_
  refine Aa rfl (Da (p:=((c22.toNat:Nat):Int)) (q:=97) rfl rfl) ?_
  refine l_M (.bool (decide (((c22.toNat:Nat):Int) < 97))) rfl rfl ?_
  refine Cn (decide (((c22.toNat:Nat):Int) < 97)) (fun b24=>?_) (fun b24=>?_)
  ·have q24:=of_decide_eq_true b24
   refine Ap (Bl rfl rfl rfl b24) ?_
   refine Ap (Bl rfl rfl rfl b24) ?_
   refine Aa rfl (Bt rfl b24 (v:=(.bool (true))) rfl) ?_
   refine l_M (.bool (true)) rfl rfl ?_
   refine l_M (.int .u8 (((c22.toNat:Nat):Int))) (Ar rfl rfl rfl rfl) rfl ?_
   refine Aa (Ar rfl rfl rfl rfl) (Da (p:=((c22.toNat:Nat):Int)) (q:=48) rfl rfl) ?_
   refine l_M (.bool (decide (((c22.toNat:Nat):Int) < 48))) (Ar rfl rfl rfl rfl) rfl ?_
   refine Cn (decide (((c22.toNat:Nat):Int) < 48)) (fun b25=>?_) (fun b25=>?_)
   ·have q25:=of_decide_eq_true b25
    refine Ap (Bl rfl rfl rfl b25) ?_
    refine Ap (Bl rfl rfl rfl b25) ?_
    refine Aa (Ar rfl rfl rfl rfl) (Bt rfl b25 (v:=(.bool (true))) rfl) ?_
    refine Aa rfl (Bt rfl rfl (v:=(.bool (true))) rfl) ?_
    refine l_M (.bool (true)) rfl rfl ?_
    refine l_M (.int .u8 (((c22.toNat:Nat):Int))) (Ar rfl rfl rfl rfl) rfl ?_
    refine Aa (Ar rfl rfl rfl rfl) (Dg (p:=((c22.toNat:Nat):Int)) (q:=45) rfl rfl) ?_
    refine Aa rfl (Bt rfl rfl (v:=(.bool (((c22.toNat:Nat):Int) != 45))) rfl) ?_
    apply Ac
    apply k23
    refine As (t:=((c22.toNat:Nat):Int) != 45) rfl (fun b26=>?_) (fun b26=>?_)
    ·have q26:=Mb b26
     refine w_q rfl rfl fun K27 k27=>?_
     refine l_A (.bool (false)) rfl rfl ?_
     apply Ac
     apply k27
     refine Aq ?_
     refine hret _ _ _ ?_
     refine ⟨rfl,rfl,Eq.trans (b:=(.bool (false))) rfl ?_⟩
     have hbad:Alz s i = false:=by simp only [Alz,hc22,Pk,b4,b7,b9,b12,b19,b24,b25,b26,Bool.true_and,Bool.false_and,Bool.and_true,Bool.and_false,Bool.true_or,Bool.false_or,Bool.or_true,Bool.or_false,Bool.not_true,Bool.not_false]
     have hall:=okAll_f (by omega) hbad
     simp only [Hi,hall,b4,b7,b9,b12,b19,b24,b25,b26,Bool.true_and,Bool.false_and,Bool.and_true,Bool.and_false,Bool.true_or,Bool.false_or,Bool.or_true,Bool.or_false,Bool.not_true,Bool.not_false]
    have q26:=Jh b26
    refine Al ?_
    apply k20
    refine Ag rfl rfl ?_
    refine Aa rfl (Ah (v:=(iV ((i:Int)))) h16_3) ?_
    refine Aa rfl (Br (p:=(i:Int)) (q:=1) rfl rfl (z:=(((i + 1):Nat):Int)) (Bo (by first | rfl | omega | (push_cast; rfl)) (by omega) (by omega))) ?_
    refine l_A (iV ((((i + 1):Nat):Int))) rfl rfl ?_
    apply Ac
    refine ⟨_,?_,((i + 1)),rfl,rfl,rfl,rfl,h16_0,rfl,(by omega),(Ef p16_1 (by simp only [Alz,hc22,Pk,b4,b7,b9,b12,b19,b24,b25,b26,Bool.true_and,Bool.false_and,Bool.and_true,Bool.and_false,Bool.true_or,Bool.false_or,Bool.or_true,Bool.or_false,Bool.not_true,Bool.not_false])),trivial⟩
    omega
   have q25:=of_decide_eq_false b25
   refine l_M (.int .u8 (((c22.toNat:Nat):Int))) (Ar rfl rfl rfl b25) rfl ?_
   refine Aa (Ar rfl rfl rfl b25) (Gk (p:=((c22.toNat:Nat):Int)) (q:=57) rfl rfl) ?_
   refine Aa (Ar rfl rfl rfl rfl) (Bm rfl b25 (v:=(.bool (decide (((c22.toNat:Nat):Int) > 57)))) rfl) ?_
   refine Aa rfl (Bt rfl rfl (v:=(.bool (decide (((c22.toNat:Nat):Int) > 57)))) rfl) ?_
   refine l_M (.bool (decide (((c22.toNat:Nat):Int) > 57))) rfl rfl ?_
   refine Cn (decide (((c22.toNat:Nat):Int) > 57)) (fun b28=>?_) (fun b28=>?_)
   ·have q28:=of_decide_eq_true b28
    refine l_M (.int .u8 (((c22.toNat:Nat):Int))) (Ar rfl rfl rfl b28) rfl ?_
    refine Aa (Ar rfl rfl rfl b28) (Dg (p:=((c22.toNat:Nat):Int)) (q:=45) rfl rfl) ?_
    refine Aa rfl (Bt rfl b28 (v:=(.bool (((c22.toNat:Nat):Int) != 45))) rfl) ?_
    apply Ac
    apply k23
    refine As (t:=((c22.toNat:Nat):Int) != 45) rfl (fun b29=>?_) (fun b29=>?_)
    ·have q29:=Mb b29
     refine w_q rfl rfl fun K30 k30=>?_
     refine l_A (.bool (false)) rfl rfl ?_
     apply Ac
     apply k30
     refine Aq ?_
     refine hret _ _ _ ?_
     refine ⟨rfl,rfl,Eq.trans (b:=(.bool (false))) rfl ?_⟩
     have hbad:Alz s i = false:=by simp only [Alz,hc22,Pk,b4,b7,b9,b12,b19,b24,b25,b28,b29,Bool.true_and,Bool.false_and,Bool.and_true,Bool.and_false,Bool.true_or,Bool.false_or,Bool.or_true,Bool.or_false,Bool.not_true,Bool.not_false]
     have hall:=okAll_f (by omega) hbad
     simp only [Hi,hall,b4,b7,b9,b12,b19,b24,b25,b28,b29,Bool.true_and,Bool.false_and,Bool.and_true,Bool.and_false,Bool.true_or,Bool.false_or,Bool.or_true,Bool.or_false,Bool.not_true,Bool.not_false]
    have q29:=Jh b29
    refine Al ?_
    apply k20
    refine Ag rfl rfl ?_
    refine Aa rfl (Ah (v:=(iV ((i:Int)))) h16_3) ?_
    refine Aa rfl (Br (p:=(i:Int)) (q:=1) rfl rfl (z:=(((i + 1):Nat):Int)) (Bo (by first | rfl | omega | (push_cast; rfl)) (by omega) (by omega))) ?_
    refine l_A (iV ((((i + 1):Nat):Int))) rfl rfl ?_
    apply Ac
    refine ⟨_,?_,((i + 1)),rfl,rfl,rfl,rfl,h16_0,rfl,(by omega),(Ef p16_1 (by simp only [Alz,hc22,Pk,b4,b7,b9,b12,b19,b24,b25,b28,b29,Bool.true_and,Bool.false_and,Bool.and_true,Bool.and_false,Bool.true_or,Bool.false_or,Bool.or_true,Bool.or_false,Bool.not_true,Bool.not_false])),trivial⟩
    omega
   have q28:=of_decide_eq_false b28
   refine Ap (Bl rfl rfl rfl b28) ?_
   refine Ap (Bl rfl rfl rfl b28) ?_
   refine Aa rfl (Bm rfl b28 (v:=(.bool (false))) rfl) ?_
   apply Ac
   apply k23
   refine Cg rfl rfl ?_
   refine Al ?_
   apply k20
   refine Ag rfl rfl ?_
   refine Aa rfl (Ah (v:=(iV ((i:Int)))) h16_3) ?_
   refine Aa rfl (Br (p:=(i:Int)) (q:=1) rfl rfl (z:=(((i + 1):Nat):Int)) (Bo (by first | rfl | omega | (push_cast; rfl)) (by omega) (by omega))) ?_
   refine l_A (iV ((((i + 1):Nat):Int))) rfl rfl ?_
   apply Ac
   refine ⟨_,?_,((i + 1)),rfl,rfl,rfl,rfl,h16_0,rfl,(by omega),(Ef p16_1 (by simp only [Alz,hc22,Pk,b4,b7,b9,b12,b19,b24,b25,b28,Bool.true_and,Bool.false_and,Bool.and_true,Bool.and_false,Bool.true_or,Bool.false_or,Bool.or_true,Bool.or_false,Bool.not_true,Bool.not_false])),trivial⟩
   omega
  have q24:=of_decide_eq_false b24
  refine l_M (.int .u8 (((c22.toNat:Nat):Int))) (Ar rfl rfl rfl b24) rfl ?_
  refine Aa (Ar rfl rfl rfl b24) (Gk (p:=((c22.toNat:Nat):Int)) (q:=122) rfl rfl) ?_
  refine Aa rfl (Bm rfl b24 (v:=(.bool (decide (((c22.toNat:Nat):Int) > 122)))) rfl) ?_
  refine l_M (.bool (decide (((c22.toNat:Nat):Int) > 122))) rfl rfl ?_
  refine Cn (decide (((c22.toNat:Nat):Int) > 122)) (fun b31=>?_) (fun b31=>?_)
  ·have q31:=of_decide_eq_true b31
   refine l_M (.int .u8 (((c22.toNat:Nat):Int))) (Ar rfl rfl rfl b31) rfl ?_
   refine Aa (Ar rfl rfl rfl b31) (Da (p:=((c22.toNat:Nat):Int)) (q:=48) rfl rfl) ?_
   refine l_M (.bool (decide (((c22.toNat:Nat):Int) < 48))) (Ar rfl rfl rfl b31) rfl ?_
   refine Cn (decide (((c22.toNat:Nat):Int) < 48)) (fun b32=>?_) (fun b32=>?_)
   ·have q32:=of_decide_eq_true b32
    refine Ap (Bl rfl rfl rfl b32) ?_
    refine Ap (Bl rfl rfl rfl b32) ?_
    refine Aa (Ar rfl rfl rfl b31) (Bt rfl b32 (v:=(.bool (true))) rfl) ?_
    refine Aa rfl (Bt rfl b31 (v:=(.bool (true))) rfl) ?_
    refine l_M (.bool (true)) rfl rfl ?_
    refine l_M (.int .u8 (((c22.toNat:Nat):Int))) (Ar rfl rfl rfl rfl) rfl ?_
    refine Aa (Ar rfl rfl rfl rfl) (Dg (p:=((c22.toNat:Nat):Int)) (q:=45) rfl rfl) ?_
    refine Aa rfl (Bt rfl rfl (v:=(.bool (((c22.toNat:Nat):Int) != 45))) rfl) ?_
    apply Ac
    apply k23
    refine As (t:=((c22.toNat:Nat):Int) != 45) rfl (fun b33=>?_) (fun b33=>?_)
    ·have q33:=Mb b33
     refine w_q rfl rfl fun K34 k34=>?_
     refine l_A (.bool (false)) rfl rfl ?_
     apply Ac
     apply k34
     refine Aq ?_
     refine hret _ _ _ ?_
     refine ⟨rfl,rfl,Eq.trans (b:=(.bool (false))) rfl ?_⟩
     have hbad:Alz s i = false:=by simp only [Alz,hc22,Pk,b4,b7,b9,b12,b19,b24,b31,b32,b33,Bool.true_and,Bool.false_and,Bool.and_true,Bool.and_false,Bool.true_or,Bool.false_or,Bool.or_true,Bool.or_false,Bool.not_true,Bool.not_false]
     have hall:=okAll_f (by omega) hbad
     simp only [Hi,hall,b4,b7,b9,b12,b19,b24,b31,b32,b33,Bool.true_and,Bool.false_and,Bool.and_true,Bool.and_false,Bool.true_or,Bool.false_or,Bool.or_true,Bool.or_false,Bool.not_true,Bool.not_false]
    have q33:=Jh b33
    refine Al ?_
    apply k20
    refine Ag rfl rfl ?_
    refine Aa rfl (Ah (v:=(iV ((i:Int)))) h16_3) ?_
    refine Aa rfl (Br (p:=(i:Int)) (q:=1) rfl rfl (z:=(((i + 1):Nat):Int)) (Bo (by first | rfl | omega | (push_cast; rfl)) (by omega) (by omega))) ?_
    refine l_A (iV ((((i + 1):Nat):Int))) rfl rfl ?_
    apply Ac
    refine ⟨_,?_,((i + 1)),rfl,rfl,rfl,rfl,h16_0,rfl,(by omega),(Ef p16_1 (by simp only [Alz,hc22,Pk,b4,b7,b9,b12,b19,b24,b31,b32,b33,Bool.true_and,Bool.false_and,Bool.and_true,Bool.and_false,Bool.true_or,Bool.false_or,Bool.or_true,Bool.or_false,Bool.not_true,Bool.not_false])),trivial⟩
    omega
   have q32:=of_decide_eq_false b32
   refine l_M (.int .u8 (((c22.toNat:Nat):Int))) (Ar rfl rfl rfl b32) rfl ?_
   refine Aa (Ar rfl rfl rfl b32) (Gk (p:=((c22.toNat:Nat):Int)) (q:=57) rfl rfl) ?_
   refine Aa (Ar rfl rfl rfl b31) (Bm rfl b32 (v:=(.bool (decide (((c22.toNat:Nat):Int) > 57)))) rfl) ?_
   refine Aa rfl (Bt rfl b31 (v:=(.bool (decide (((c22.toNat:Nat):Int) > 57)))) rfl) ?_
   refine l_M (.bool (decide (((c22.toNat:Nat):Int) > 57))) rfl rfl ?_
   refine Cn (decide (((c22.toNat:Nat):Int) > 57)) (fun b35=>?_) (fun b35=>?_)
   ·have q35:=of_decide_eq_true b35
    refine l_M (.int .u8 (((c22.toNat:Nat):Int))) (Ar rfl rfl rfl b35) rfl ?_
    refine Aa (Ar rfl rfl rfl b35) (Dg (p:=((c22.toNat:Nat):Int)) (q:=45) rfl rfl) ?_
    refine Aa rfl (Bt rfl b35 (v:=(.bool (((c22.toNat:Nat):Int) != 45))) rfl) ?_
    apply Ac
    apply k23
    refine As (t:=((c22.toNat:Nat):Int) != 45) rfl (fun b36=>?_) (fun b36=>?_)
    ·have q36:=Mb b36
     refine w_q rfl rfl fun K37 k37=>?_
     refine l_A (.bool (false)) rfl rfl ?_
     apply Ac
     apply k37
     refine Aq ?_
     refine hret _ _ _ ?_
     refine ⟨rfl,rfl,Eq.trans (b:=(.bool (false))) rfl ?_⟩
     have hbad:Alz s i = false:=by simp only [Alz,hc22,Pk,b4,b7,b9,b12,b19,b24,b31,b32,b35,b36,Bool.true_and,Bool.false_and,Bool.and_true,Bool.and_false,Bool.true_or,Bool.false_or,Bool.or_true,Bool.or_false,Bool.not_true,Bool.not_false]
     have hall:=okAll_f (by omega) hbad
     simp only [Hi,hall,b4,b7,b9,b12,b19,b24,b31,b32,b35,b36,Bool.true_and,Bool.false_and,Bool.and_true,Bool.and_false,Bool.true_or,Bool.false_or,Bool.or_true,Bool.or_false,Bool.not_true,Bool.not_false]
    have q36:=Jh b36
    refine Al ?_
    apply k20
    refine Ag rfl rfl ?_
    refine Aa rfl (Ah (v:=(iV ((i:Int)))) h16_3) ?_
    refine Aa rfl (Br (p:=(i:Int)) (q:=1) rfl rfl (z:=(((i + 1):Nat):Int)) (Bo (by first | rfl | omega | (push_cast; rfl)) (by omega) (by omega))) ?_
    refine l_A (iV ((((i + 1):Nat):Int))) rfl rfl ?_
    apply Ac
    refine ⟨_,?_,((i + 1)),rfl,rfl,rfl,rfl,h16_0,rfl,(by omega),(Ef p16_1 (by simp only [Alz,hc22,Pk,b4,b7,b9,b12,b19,b24,b31,b32,b35,b36,Bool.true_and,Bool.false_and,Bool.and_true,Bool.and_false,Bool.true_or,Bool.false_or,Bool.or_true,Bool.or_false,Bool.not_true,Bool.not_false])),trivial⟩
    omega
   have q35:=of_decide_eq_false b35
   refine Ap (Bl rfl rfl rfl b35) ?_
   refine Ap (Bl rfl rfl rfl b35) ?_
   refine Aa rfl (Bm rfl b35 (v:=(.bool (false))) rfl) ?_
   apply Ac
   apply k23
   refine Cg rfl rfl ?_
   refine Al ?_
   apply k20
   refine Ag rfl rfl ?_
   refine Aa rfl (Ah (v:=(iV ((i:Int)))) h16_3) ?_
   refine Aa rfl (Br (p:=(i:Int)) (q:=1) rfl rfl (z:=(((i + 1):Nat):Int)) (Bo (by first | rfl | omega | (push_cast; rfl)) (by omega) (by omega))) ?_
   refine l_A (iV ((((i + 1):Nat):Int))) rfl rfl ?_
   apply Ac
   refine ⟨_,?_,((i + 1)),rfl,rfl,rfl,rfl,h16_0,rfl,(by omega),(Ef p16_1 (by simp only [Alz,hc22,Pk,b4,b7,b9,b12,b19,b24,b31,b32,b35,Bool.true_and,Bool.false_and,Bool.and_true,Bool.and_false,Bool.true_or,Bool.false_or,Bool.or_true,Bool.or_false,Bool.not_true,Bool.not_false])),trivial⟩
   omega
  have q31:=of_decide_eq_false b31
  refine Ap (Bl rfl rfl rfl b31) ?_
  refine Ap (Bl rfl rfl rfl b31) ?_
  refine Ap (Bl rfl rfl rfl b31) ?_
  refine Ap (Jf rfl rfl rfl) ?_
  refine Ap (Jf rfl rfl rfl) ?_
  refine Ap (Bl rfl rfl rfl b31) ?_
  refine Aa rfl (Bm rfl b31 (v:=(.bool (false))) rfl) ?_
  refine l_M (.bool (false)) rfl rfl ?_
  refine Ap (Bl rfl rfl rfl rfl) ?_
  refine Ap (Bl rfl rfl rfl rfl) ?_
  refine Aa rfl (Bm rfl rfl (v:=(.bool (false))) rfl) ?_
  apply Ac
  apply k23
  refine Cg rfl rfl ?_
  refine Al ?_
  apply k20
  refine Ag rfl rfl ?_
  refine Aa rfl (Ah (v:=(iV ((i:Int)))) h16_3) ?_
  refine Aa rfl (Br (p:=(i:Int)) (q:=1) rfl rfl (z:=(((i + 1):Nat):Int)) (Bo (by first | rfl | omega | (push_cast; rfl)) (by omega) (by omega))) ?_
  refine l_A (iV ((((i + 1):Nat):Int))) rfl rfl ?_
  apply Ac
  refine ⟨_,?_,((i + 1)),rfl,rfl,rfl,rfl,h16_0,rfl,(by omega),(Ef p16_1 (by simp only [Alz,hc22,Pk,b4,b7,b9,b12,b19,b24,b31,Bool.true_and,Bool.false_and,Bool.and_true,Bool.and_false,Bool.true_or,Bool.false_or,Bool.or_true,Bool.or_false,Bool.not_true,Bool.not_false])),trivial⟩
  omega
 have q19:=of_decide_eq_false b19
 refine Bx ?_
 apply k14
 refine w_q rfl rfl fun K38 k38=>?_
 refine l_A (.bool (true)) rfl rfl ?_
 apply Ac
 apply k38
 refine Aq ?_
 refine hret _ _ _ ?_
 refine ⟨rfl,rfl,Eq.trans (b:=(.bool (true))) rfl ?_⟩
 have hall:=okAll_t.2 fun j hj=>p16_1 j (by omega)
 simp only [Hi,Pu,hall,hc8,b4,b7,b9,b12,b19,Bool.true_and,Bool.false_and,Bool.and_true,Bool.and_false,Bool.true_or,Bool.false_or,Bool.or_true,Bool.or_false,Bool.not_true,Bool.not_false]
set_option maxRecDepth 100000 in
theorem c_Find {mn:Bool} {X:Frame→List Frame→Ro→Own→Cy→Prop} {ρ:Ro} {σ:Own} {l:List ByteArray} {vl:Value} {s:ByteArray} (rl:Val ρ vl l):CallsH (CX mn X) 114 #[vl,(.string (s))] ρ σ (fun w ρ' σ'=>ρ' = ρ∧σ' = σ∧w = (iV (Ajt l s))):=by
 refine Bh (n:=19) (args:=[vl,(.string (s))]) [4] Tryd.func114 rfl rfl rfl rfl fun Q hret hnor=>?_
 refine w_q rfl rfl fun K1 k1=>?_
 refine l_A (iV (0)) rfl rfl ?_
 apply Ac
 apply k1
 refine Ai fun K2 k2=>?_
 refine w_q rfl rfl fun K3 k3=>?_
 refine l_A (iV (0)) rfl rfl ?_
 apply Ac
 apply k3
 refine Ao ?_
 refine Cc (fun mm ee dd ρ' σ'=>∃ (i:Nat),(l.length - i) = mm∧[] = dd∧ρ = ρ'∧σ = σ'∧ee 0 = vl∧ee 1 = (.string (s))∧ee 5 = (iV ((i:Int)))∧(i ≤ l.length)∧(∀ j,j < i→Xp l s j = false)∧True) (m:=_) ⟨0,rfl,rfl,rfl,rfl,rfl,rfl,rfl,(Nat.zero_le _),(fun j h=>absurd h (Nat.not_lt_zero _)),trivial⟩ ?_
 rintro m4 e4 _ _ _ ⟨i,rfl,rfl,rfl,rfl,h4_0,h4_1,h4_5,p4_0,p4_1,_⟩
 refine Ai fun K5 k5=>?_
 refine w_q rfl rfl fun K6 k6=>?_
 refine Aa rfl (Ah (v:=(iV ((i:Int)))) h4_5) ?_
 refine Aa rfl (Ah (v:=vl) h4_0) ?_
 have g7:=Val.len rl
 refine Aa rfl (Ce (el:=9) Tryd.underlying22 rfl rl) ?_
 refine Aa rfl (Da (p:=(i:Int)) (q:=((l.length:Nat):Int)) rfl rfl) ?_
 apply Ac
 apply k6
 refine As (t:=decide ((i:Int) < ((l.length:Nat):Int))) rfl (fun b8=>?_) (fun b8=>?_)
 ·have q8:=of_decide_eq_true b8
  refine Al ?_
  apply k5
  refine Ai fun K9 k9=>?_
  refine Ao ?_
  refine w_q rfl rfl fun K10 k10=>?_
  refine Aa rfl (Ah (v:=vl) h4_0) ?_
  refine Aa rfl (Ah (v:=(iV ((i:Int)))) h4_5) ?_
  obtain ⟨a12,ha12⟩:=Ed (xs:=l) (i:=i) (by omega)
  refine Ak rfl (Ci i Tryd.underlying22 ty9 rfl rl (q:=(i:Int)) rfl rfl ha12) fun v11 r11=>?_
  have g13:=At.slen r11
  refine Aa rfl (Oz ty9 rfl r11) ?_
  refine Aa rfl (Ah (v:=(.string (s))) h4_1) ?_
  refine Aa rfl (y_eqs (p:=a12) (q:=s) rfl rfl) ?_
  apply Ac
  apply k10
  refine As (t:=(a12).toList == (s).toList) rfl (fun b14=>?_) (fun b14=>?_)
  ·have q14:=Jo b14
   refine w_q rfl rfl fun K15 k15=>?_
   refine Aa rfl (Ah (v:=(iV ((i:Int)))) h4_5) ?_
   refine l_A (iV ((i:Int))) rfl rfl ?_
   apply Ac
   apply k15
   refine Aq ?_
   refine hret _ _ _ ?_
   refine ⟨rfl,rfl,Eq.trans (b:=(iV ((i:Int)))) rfl ?_⟩
   have hi:=Fg (n:=l.length) p4_1 (by omega) (show Xp l s i = true by simp only [Xp,ha12,b8,b14])
   simp only [Ajt,hi]
  have q14:=La b14
  refine Al ?_
  apply k9
  refine Ag rfl rfl ?_
  refine Aa rfl (Ah (v:=(iV ((i:Int)))) h4_5) ?_
  refine Aa rfl (Br (p:=(i:Int)) (q:=1) rfl rfl (z:=(((i + 1):Nat):Int)) (Bo (by first | rfl | omega | (push_cast; rfl)) (by omega) (by omega))) ?_
  refine l_A (iV ((((i + 1):Nat):Int))) rfl rfl ?_
  apply Ac
  refine ⟨_,?_,((i + 1)),rfl,rfl,rfl,rfl,h4_0,h4_1,rfl,(by omega),(Ef p4_1 (by simp only [Xp,ha12,b8,b14])),trivial⟩
  omega
 have q8:=of_decide_eq_false b8
 refine Bx ?_
 apply k2
 refine w_q rfl rfl fun K16 k16=>?_
 refine l_A (iV ((-1))) rfl rfl ?_
 apply Ac
 apply k16
 refine Aq ?_
 refine hret _ _ _ ?_
 refine ⟨rfl,rfl,Eq.trans (b:=(iV ((-1)))) rfl ?_⟩
 have hn:=Ep (n:=l.length) fun j hj=>p4_1 j (by omega)
 simp only [Ajt,hn]
set_option maxRecDepth 100000 in
theorem c_names {mn:Bool} {X:Frame→List Frame→Ro→Own→Cy→Prop} {ρ:Ro} {σ:Own} {l:List ByteArray} {vl:Value} {most:Int} (rl:Val ρ vl l):CallsH (CX mn X) 77 #[vl,(iV (most))] ρ σ (fun w ρ' σ'=>ρ' = ρ∧σ' = σ∧w = (iV (Dd l most))):=by
 refine Bh (n:=31) (args:=[vl,(iV (most))]) [4] Tryd.func77 rfl rfl rfl rfl fun Q hret hnor=>?_
 refine w_q rfl rfl fun K1 k1=>?_
 refine l_A (iV (0)) rfl rfl ?_
 apply Ac
 apply k1
 refine Ai fun K2 k2=>?_
 refine w_q rfl rfl fun K3 k3=>?_
 refine l_M vl rfl rfl ?_
 have g4:=Val.len rl
 refine Aa rfl (Ce (el:=9) Tryd.underlying22 rfl rl) ?_
 refine l_M (iV (most)) rfl rfl ?_
 refine Aa rfl (Gk (p:=((l.length:Nat):Int)) (q:=most) rfl rfl) ?_
 apply Ac
 apply k3
 refine As (t:=decide (((l.length:Nat):Int) > most)) rfl (fun b5=>?_) (fun b5=>?_)
 ·have q5:=of_decide_eq_true b5
  refine w_q rfl rfl fun K6 k6=>?_
  refine l_A (iV (2)) rfl rfl ?_
  apply Ac
  apply k6
  refine Aq ?_
  refine hret _ _ _ ?_
  refine ⟨rfl,rfl,Eq.trans (b:=(iV (2))) rfl ?_⟩
  rw [Dd,if_pos (by omega)]
 have q5:=of_decide_eq_false b5
 refine Al ?_
 apply k2
 refine Ai fun K7 k7=>?_
 refine w_q rfl rfl fun K8 k8=>?_
 refine l_A (iV (0)) rfl rfl ?_
 apply Ac
 apply k8
 refine Ao ?_
 refine Cc (fun mm ee dd ρ' σ'=>∃ (i:Nat),(l.length - i) = mm∧[] = dd∧ρ = ρ'∧σ = σ'∧ee 0 = vl∧ee 5 = (iV ((i:Int)))∧(i ≤ l.length)∧(∀ j,j < i→Nh l j = 0)∧True) (m:=_) ⟨0,rfl,rfl,rfl,rfl,rfl,rfl,(Nat.zero_le _),(fun j h=>absurd h (Nat.not_lt_zero _)),trivial⟩ ?_
 rintro m9 e9 _ _ _ ⟨i,rfl,rfl,rfl,rfl,h9_0,h9_5,p9_0,p9_1,_⟩
 refine Ai fun K10 k10=>?_
 refine w_q rfl rfl fun K11 k11=>?_
 refine Aa rfl (Ah (v:=(iV ((i:Int)))) h9_5) ?_
 refine Aa rfl (Ah (v:=vl) h9_0) ?_
 have g12:=Val.len rl
 refine Aa rfl (Ce (el:=9) Tryd.underlying22 rfl rl) ?_
 refine Aa rfl (Da (p:=(i:Int)) (q:=((l.length:Nat):Int)) rfl rfl) ?_
 apply Ac
 apply k11
 refine As (t:=decide ((i:Int) < ((l.length:Nat):Int))) rfl (fun b13=>?_) (fun b13=>?_)
 ·have q13:=of_decide_eq_true b13
  refine Al ?_
  apply k10
  refine Ai fun K14 k14=>?_
  refine Ao ?_
  refine Ai fun K15 k15=>?_
  refine w_q rfl rfl fun K16 k16=>?_
  refine Aa rfl (Ah (v:=vl) h9_0) ?_
  refine Aa rfl (Ah (v:=(iV ((i:Int)))) h9_5) ?_
  obtain ⟨a18,ha18⟩:=Ed (xs:=l) (i:=i) (by omega)
  refine Ak rfl (Ci i Tryd.underlying22 ty9 rfl rl (q:=(i:Int)) rfl rfl ha18) fun v17 r17=>?_
  have g19:=At.slen r17
  refine Aa rfl (Oz ty9 rfl r17) ?_
  refine Ae rfl (Bn (vs:=[(.string (a18))]) (v:=(.bool (Hi a18))) (c_Name) Tryd.func78 rfl rfl ⟨rfl,trivial⟩ ?_)
  refine Aa rfl (Ix (k:=Hi a18) rfl) ?_
  apply Ac
  apply k16
  refine As (t:=!(Hi a18)) rfl (fun b20=>?_) (fun b20=>?_)
  ·have b21:=not_eq_t b20
   refine w_q rfl rfl fun K22 k22=>?_
   refine l_A (iV (4)) rfl rfl ?_
   apply Ac
   apply k22
   refine Aq ?_
   refine hret _ _ _ ?_
   refine ⟨rfl,rfl,Eq.trans (b:=(iV (4))) rfl ?_⟩
   have hf:Nh l i = 4:=by simp only [Nh,ha18,b5,b13,b20,b21]; first | rfl | omega | (simp; done) | (simp; omega)
   rw [Dd,if_neg (by omega),Db p9_1 (by omega) hf (by omega)]
  have b23:=not_eq_f b20
  refine Al ?_
  apply k15
  refine Ai fun K24 k24=>?_
  refine Dc [0,1,2,3,4,5,6,7,8] (by kernel_rfl) rfl rfl ?_
  refine Be (i:=0) Aov rfl (by kernel_rfl) rfl Ary rfl (Ah (v:=vl) h9_0) ?_
  refine Be (i:=1) Aof rfl (by kernel_rfl) rfl Ary rfl (Ah (v:=(iV ((i:Int)))) h9_5) ?_
  refine Cd (i:=2) Apd rfl (by kernel_rfl) rfl Ary rfl (y_slice_hi i Tryd.underlying22 ty9 rfl rl (q:=(i:Int)) rfl rfl (by omega)) fun v25 r25=>?_
  refine Be (i:=3) Anf rfl (by kernel_rfl) rfl Ary rfl (Ah (v:=vl) h9_0) ?_
  refine Bg (i:=4) Aon rfl (by kernel_rfl) rfl Ary rfl (Ah (v:=(iV ((i:Int)))) h9_5) ?_
  refine Hl (i:=5) Aob rfl (by kernel_rfl) rfl Ary rfl (Ci i Tryd.underlying22 ty9 rfl rl (q:=(i:Int)) rfl rfl ha18) fun v26 r26=>?_
  have g27:=At.slen r26
  refine Bg (i:=6) Aow rfl (by kernel_rfl) rfl Ary rfl (Oz ty9 rfl r26) ?_
  refine Dj (i:=7) Anz rfl (by kernel_rfl) rfl rfl (Bn (vs:=[v25,(.string (a18))]) (v:=(iV (Ajt ((l.take i)) a18))) (c_Find r25) Tryd.func114 rfl rfl ⟨rfl,rfl,trivial⟩ ⟨Ary,?_⟩)
  refine Bg (i:=8) Anb rfl (by kernel_rfl) rfl Ary rfl (Uv (p:=Ajt ((l.take i)) a18) (q:=0) rfl rfl) ?_
  refine Ec rfl ?_
  apply k24
  refine As (t:=decide (Ajt ((l.take i)) a18 ≥ 0)) rfl (fun b28=>?_) (fun b28=>?_)
  ·have q28:=of_decide_eq_true b28
   refine w_q rfl rfl fun K29 k29=>?_
   refine l_A (iV (5)) rfl rfl ?_
   apply Ac
   apply k29
   refine Aq ?_
   refine hret _ _ _ ?_
   refine ⟨rfl,rfl,Eq.trans (b:=(iV (5))) rfl ?_⟩
   have hf:Nh l i = 5:=by simp only [Nh,ha18,b5,b13,b20,b23,b28]; first | rfl | omega | (simp; done) | (simp; omega)
   rw [Dd,if_neg (by omega),Db p9_1 (by omega) hf (by omega)]
  have q28:=of_decide_eq_false b28
  refine Al ?_
  apply k14
  refine Ag rfl rfl ?_
  refine Aa rfl (Ah (v:=(iV ((i:Int)))) h9_5) ?_
  refine Aa rfl (Br (p:=(i:Int)) (q:=1) rfl rfl (z:=(((i + 1):Nat):Int)) (Bo (by first | rfl | omega | (push_cast; rfl)) (by omega) (by omega))) ?_
  refine l_A (iV ((((i + 1):Nat):Int))) rfl rfl ?_
  apply Ac
  refine ⟨_,?_,((i + 1)),rfl,rfl,rfl,rfl,h9_0,rfl,(by omega),(Ef p9_1 (by simp only [Nh,ha18,b5,b13,b20,b23,b28]; first | rfl | omega | (simp; done) | (simp; omega))),trivial⟩
  omega
 have q13:=of_decide_eq_false b13
 refine Bx ?_
 apply k7
 refine w_q rfl rfl fun K30 k30=>?_
 refine l_A (iV (0)) rfl rfl ?_
 apply Ac
 apply k30
 refine Aq ?_
 refine hret _ _ _ ?_
 refine ⟨rfl,rfl,Eq.trans (b:=(iV (0))) rfl ?_⟩
 rw [Dd,if_neg (by omega),Fb fun j hj=>p9_1 j (by omega)]
end Go.Proofs.YtoefdnbaklajeaaDoor

namespace Go.Proofs.YtoefdnbaklajeaaDoor
open Go
set_option maxRecDepth 100000 in
theorem c_checkSpans {mn:Bool} {X:Frame→List Frame→Ro→Own→Cy→Prop} {ρ:Ro} {σ:Own} {l:List Span} {vl:Value} {many:Int} (rl:Val ρ vl l):CallsH (CX mn X) 81 #[vl,(iV (many))] ρ σ (fun w ρ' σ'=>ρ' = ρ∧σ' = σ∧w = (iV (Fl l many))):=by
 refine Bh (n:=22) (args:=[vl,(iV (many))]) [4] Tryd.func81 rfl rfl rfl rfl fun Q hret hnor=>?_
 refine w_q rfl rfl fun K1 k1=>?_
 refine l_A (iV (0)) rfl rfl ?_
 apply Ac
 apply k1
 refine Ai fun K2 k2=>?_
 refine w_q rfl rfl fun K3 k3=>?_
 refine l_M vl rfl rfl ?_
 have g4:=Val.len rl
 refine Aa rfl (Ce (el:=65) Tryd.underlying27 rfl rl) ?_
 refine l_M (iV (many)) rfl rfl ?_
 refine Aa rfl (Dg (p:=((l.length:Nat):Int)) (q:=many) rfl rfl) ?_
 apply Ac
 apply k3
 refine As (t:=((l.length:Nat):Int) != many) rfl (fun b5=>?_) (fun b5=>?_)
 ·have q5:=Mb b5
  refine w_q rfl rfl fun K6 k6=>?_
  refine l_A (iV (2)) rfl rfl ?_
  apply Ac
  apply k6
  refine Aq ?_
  refine hret _ _ _ ?_
  refine ⟨rfl,rfl,Eq.trans (b:=(iV (2))) rfl ?_⟩
  rw [Fl,if_neg (by omega)]
 have q5:=Jh b5
 refine Al ?_
 apply k2
 refine Ai fun K7 k7=>?_
 refine w_q rfl rfl fun K8 k8=>?_
 refine l_A (iV (0)) rfl rfl ?_
 apply Ac
 apply k8
 refine Ao ?_
 refine Cc (fun mm ee dd ρ' σ'=>∃ (i:Nat),(l.length - i) = mm∧[] = dd∧ρ = ρ'∧σ = σ'∧ee 0 = vl∧ee 5 = (iV ((i:Int)))∧(i ≤ l.length)∧(∀ j,j < i→Nj l j = 0)∧True) (m:=_) ⟨0,rfl,rfl,rfl,rfl,rfl,rfl,(Nat.zero_le _),(fun j h=>absurd h (Nat.not_lt_zero _)),trivial⟩ ?_
 rintro m9 e9 _ _ _ ⟨i,rfl,rfl,rfl,rfl,h9_0,h9_5,p9_0,p9_1,_⟩
 refine Ai fun K10 k10=>?_
 refine w_q rfl rfl fun K11 k11=>?_
 refine Aa rfl (Ah (v:=(iV ((i:Int)))) h9_5) ?_
 refine Aa rfl (Ah (v:=vl) h9_0) ?_
 have g12:=Val.len rl
 refine Aa rfl (Ce (el:=65) Tryd.underlying27 rfl rl) ?_
 refine Aa rfl (Da (p:=(i:Int)) (q:=((l.length:Nat):Int)) rfl rfl) ?_
 apply Ac
 apply k11
 refine As (t:=decide ((i:Int) < ((l.length:Nat):Int))) rfl (fun b13=>?_) (fun b13=>?_)
 ·have q13:=of_decide_eq_true b13
  refine Al ?_
  apply k10
  refine Ai fun K14 k14=>?_
  refine Ao ?_
  refine w_q rfl rfl fun K15 k15=>?_
  refine Aa rfl (Ah (v:=vl) h9_0) ?_
  refine Aa rfl (Ah (v:=(iV ((i:Int)))) h9_5) ?_
  obtain ⟨a17,ha17⟩:=Ed (xs:=l) (i:=i) (by omega)
  refine Ak rfl (Ci i Tryd.underlying27 Mx rfl rl (q:=(i:Int)) rfl rfl ha17) fun v16 r16=>?_
  refine Ak rfl (Ax Mx rfl r16) fun v18 r18=>?_
  refine Ae rfl (Bn (vs:=[v18,(iV (0)),(iV (1000))]) (v:=(.bool (Eg a17 0 1000))) (c_Inside r18) Tryd.func80 rfl rfl ⟨rfl,rfl,rfl,trivial⟩ ?_)
  refine Aa rfl (Ix (k:=Eg a17 0 1000) rfl) ?_
  apply Ac
  apply k15
  refine As (t:=!(Eg a17 0 1000)) rfl (fun b19=>?_) (fun b19=>?_)
  ·have b20:=not_eq_t b19
   refine w_q rfl rfl fun K21 k21=>?_
   refine l_A (iV (1)) rfl rfl ?_
   apply Ac
   apply k21
   refine Aq ?_
   refine hret _ _ _ ?_
   refine ⟨rfl,rfl,Eq.trans (b:=(iV (1))) rfl ?_⟩
   have hf:Nj l i = 1:=by simp [Nj,ha17,b5,b13,b19,b20,q5,q13]
   rw [Fl,if_pos (by omega),Db p9_1 (by omega) hf (by omega)]
  have b22:=not_eq_f b19
  refine Al ?_
  apply k14
  refine Ag rfl rfl ?_
  refine Aa rfl (Ah (v:=(iV ((i:Int)))) h9_5) ?_
  refine Aa rfl (Br (p:=(i:Int)) (q:=1) rfl rfl (z:=(((i + 1):Nat):Int)) (Bo (by first | rfl | omega | (push_cast; rfl)) (by omega) (by omega))) ?_
  refine l_A (iV ((((i + 1):Nat):Int))) rfl rfl ?_
  apply Ac
  refine ⟨_,?_,((i + 1)),rfl,rfl,rfl,rfl,h9_0,rfl,(by omega),(Ef p9_1 (by simp [Nj,ha17,b5,b13,b19,b22,q5,q13])),trivial⟩
  omega
 have q13:=of_decide_eq_false b13
 refine Bx ?_
 apply k7
 refine w_q rfl rfl fun K23 k23=>?_
 refine l_A (iV (0)) rfl rfl ?_
 apply Ac
 apply k23
 refine Aq ?_
 refine hret _ _ _ ?_
 refine ⟨rfl,rfl,Eq.trans (b:=(iV (0))) rfl ?_⟩
 rw [Fl,if_pos (by omega),Fb fun j hj=>p9_1 j (by omega)]
set_option maxRecDepth 100000 in
theorem c_CheckMarket {mn:Bool} {X:Frame→List Frame→Ro→Own→Cy→Prop} {ρ:Ro} {σ:Own} {m:Market} {vm:Value} (rm:Val ρ vm m):CallsH (CX mn X) 28 #[vm] ρ σ (fun w ρ' σ'=>ρ' = ρ∧σ' = σ∧w = (iV (Ch m))):=by
 refine Bh (n:=137) (args:=[vm]) [2] Tryd.func28 rfl rfl rfl rfl fun Q hret hnor=>?_
 refine w_q rfl rfl fun K1 k1=>?_
 refine Ae rfl (Eb (v:=vm) rfl fun k2=>?_)
 refine Bb (a:=m) rm fun ρ2 l2 r2=>?_
 replace rm:=Asa l2 rm
 refine l_A (iV (0)) rfl rfl ?_
 apply Ac
 apply k1
 refine Ai fun K3 k3=>?_
 refine w_q rfl rfl fun K4 k4=>?_
 refine Ak rfl (Ay Market.f_houses Tryd.underlying26 rfl rfl Hu (by decide) rfl r2) fun v5 r5=>?_
 refine Ak rfl (Ax Hu rfl r5) fun v6 r6=>?_
 refine Ae rfl (Bn (vs:=[v6,(iV (5))]) (v:=(iV (Dd m.houses 5))) (c_names r6) Tryd.func77 rfl rfl ⟨rfl,rfl,trivial⟩ ?_)
 refine l_A (iV (Dd m.houses 5)) rfl rfl ?_
 apply Ac
 apply k4
 refine w_q rfl rfl fun K7 k7=>?_
 refine l_M (iV (Dd m.houses 5)) rfl rfl ?_
 refine Aa rfl (Dg (p:=Dd m.houses 5) (q:=0) rfl rfl) ?_
 apply Ac
 apply k7
 refine As (t:=Dd m.houses 5 != 0) rfl (fun b8=>?_) (fun b8=>?_)
 ·have q8:=Mb b8
  refine w_q rfl rfl fun K9 k9=>?_
  refine l_M (iV (Dd m.houses 5)) rfl rfl ?_
  refine l_A (iV (Dd m.houses 5)) rfl rfl ?_
  apply Ac
  apply k9
  refine Aj (Arw l2) ?_
  refine Aq ?_
  refine hret _ _ _ ?_
  refine ⟨rfl,rfl,Eq.trans (b:=(iV (Dd m.houses 5))) rfl ?_⟩
  rw [Ch,Rx q8]
 have q8:=Jh b8
 refine Al ?_
 apply k3
 refine Ai fun K10 k10=>?_
 refine w_q rfl rfl fun K11 k11=>?_
 refine Ak rfl (Ay Market.f_marks Tryd.underlying26 rfl rfl Hu (by decide) rfl r2) fun v12 r12=>?_
 refine Ak rfl (Ax Hu rfl r12) fun v13 r13=>?_
 refine Ae rfl (Bn (vs:=[v13,(iV (4))]) (v:=(iV (Dd m.marks 4))) (c_names r13) Tryd.func77 rfl rfl ⟨rfl,rfl,trivial⟩ ?_)
 refine l_A (iV (Dd m.marks 4)) rfl rfl ?_
 apply Ac
 apply k11
 refine w_q rfl rfl fun K14 k14=>?_
 refine l_M (iV (Dd m.marks 4)) rfl rfl ?_
 refine Aa rfl (Dg (p:=Dd m.marks 4) (q:=0) rfl rfl) ?_
 apply Ac
 apply k14
 refine As (t:=Dd m.marks 4 != 0) rfl (fun b15=>?_) (fun b15=>?_)
 ·have q15:=Mb b15
  refine w_q rfl rfl fun K16 k16=>?_
  refine l_M (iV (Dd m.marks 4)) rfl rfl ?_
  refine l_A (iV (Dd m.marks 4)) rfl rfl ?_
  apply Ac
  apply k16
  refine Aj (Arw l2) ?_
  refine Aq ?_
  refine hret _ _ _ ?_
  refine ⟨rfl,rfl,Eq.trans (b:=(iV (Dd m.marks 4))) rfl ?_⟩
  rw [Ch,Gt q8,Rx q15]
 have q15:=Jh b15
 refine Al ?_
 apply k10
 refine Ai fun K17 k17=>?_
 refine w_q rfl rfl fun K18 k18=>?_
 refine Ak rfl (Ay Market.f_fields Tryd.underlying26 rfl rfl Se (by decide) rfl r2) fun v19 r19=>?_
 refine Ak rfl (Ax Se rfl r19) fun v20 r20=>?_
 have g21:=Val.len r20
 refine Aa rfl (Ce (el:=67) Tryd.underlying23 rfl r20) ?_
 refine Aa rfl (Gk (p:=((m.fields.length:Nat):Int)) (q:=6) rfl rfl) ?_
 apply Ac
 apply k18
 refine As (t:=decide (((m.fields.length:Nat):Int) > 6)) rfl (fun b22=>?_) (fun b22=>?_)
 ·have q22:=of_decide_eq_true b22
  refine w_q rfl rfl fun K23 k23=>?_
  refine l_A (iV (2)) rfl rfl ?_
  apply Ac
  apply k23
  refine Aj (Arw l2) ?_
  refine Aq ?_
  refine hret _ _ _ ?_
  refine ⟨rfl,rfl,Eq.trans (b:=(iV (2))) rfl ?_⟩
  rw [Ch,Gt q8,Gt q15,Ew,if_pos q22,Rx (by omega)]
 have q22:=of_decide_eq_false b22
 refine Al ?_
 apply k17
 refine Ai fun K24 k24=>?_
 refine w_q rfl rfl fun K25 k25=>?_
 refine l_A (iV (0)) rfl rfl ?_
 apply Ac
 apply k25
 refine Ao ?_
 refine Cc (fun mm ee dd ρ' σ'=>∃ (i:Nat),(m.fields.length - i) = mm∧[] = dd∧ρ2 = ρ'∧σ = σ'∧ee 1 = (.pointer (some ⟨k2,0,none⟩))∧ee 5 = (iV ((i:Int)))∧(i ≤ m.fields.length)∧(∀ j,j < i→fieldAt m j = 0)∧True) (m:=_) ⟨0,rfl,rfl,rfl,rfl,rfl,rfl,(Nat.zero_le _),(fun j h=>absurd h (Nat.not_lt_zero _)),trivial⟩ ?_
 rintro m26 e26 _ _ _ ⟨i,rfl,rfl,rfl,rfl,h26_1,h26_5,p26_0,p26_1,_⟩
 refine Ai fun K27 k27=>?_
 refine w_q rfl rfl fun K28 k28=>?_
 refine Aa rfl (Ah (v:=(iV ((i:Int)))) h26_5) ?_
 refine Ak rfl (Ay Market.f_fields Tryd.underlying26 rfl rfl Se (by decide) h26_1 r2) fun v29 r29=>?_
 refine Ak rfl (Ax Se rfl r29) fun v30 r30=>?_
 have g31:=Val.len r30
 refine Aa rfl (Ce (el:=67) Tryd.underlying23 rfl r30) ?_
 refine Aa rfl (Da (p:=(i:Int)) (q:=((m.fields.length:Nat):Int)) rfl rfl) ?_
 apply Ac
 apply k28
 refine As (t:=decide ((i:Int) < ((m.fields.length:Nat):Int))) rfl (fun b32=>?_) (fun b32=>?_)
 ·have q32:=of_decide_eq_true b32
  refine Al ?_
  apply k27
  refine Ai fun K33 k33=>?_
  refine Ao ?_
  refine w_q rfl rfl fun K34 k34=>?_
  refine Ak rfl (Ay Market.f_fields Tryd.underlying26 rfl rfl Se (by decide) h26_1 r2) fun v35 r35=>?_
  refine Ak rfl (Ax Se rfl r35) fun v36 r36=>?_
  refine Aa rfl (Ah (v:=(iV ((i:Int)))) h26_5) ?_
  obtain ⟨a38,ha38⟩:=Ed (xs:=m.fields) (i:=i) (by omega)
  refine Ak rfl (Ci i Tryd.underlying23 Ln rfl r36 (q:=(i:Int)) rfl rfl ha38) fun v37 r37=>?_
  refine Ak rfl (Ax Ln rfl r37) fun v39 r39=>?_
  refine Ae rfl (Ct Xg fun k40=>?_)
  refine Cx rfl (Du (v:=v39) (a:=a38) (c:=Zu) Ln rfl rfl r39 rfl ?_)
  refine Bb (a:=a38) r39 fun ρ41 l41 r41=>?_
  replace r2:=Arv l41 r2
  replace r35:=Arv l41 r35
  replace r36:=Asa l41 r36
  replace r37:=Arv l41 r37
  replace r39:=Asa l41 r39
  apply Ac
  apply k34
  refine Ai fun K42 k42=>?_
  refine w_q rfl rfl fun K43 k43=>?_
  refine Ak rfl (Ay FField.f_name Tryd.underlying67 rfl rfl ty9 (by decide) rfl r41) fun v44 r44=>?_
  have g45:=At.slen r44
  refine Aa rfl (Oz ty9 rfl r44) ?_
  refine Ae rfl (Bn (vs:=[(.string (a38.name))]) (v:=(.bool (Hi a38.name))) (c_Name) Tryd.func78 rfl rfl ⟨rfl,trivial⟩ ?_)
  refine Aa rfl (Ix (k:=Hi a38.name) rfl) ?_
  apply Ac
  apply k43
  refine As (t:=!(Hi a38.name)) rfl (fun b46=>?_) (fun b46=>?_)
  ·have b47:=not_eq_t b46
   refine w_q rfl rfl fun K48 k48=>?_
   refine l_A (iV (4)) rfl rfl ?_
   apply Ac
   apply k48
   refine Aj (Arw (Arz l2 l41)) ?_
   refine Aq ?_
   refine hret _ _ _ ?_
   refine ⟨rfl,rfl,Eq.trans (b:=(iV (4))) rfl ?_⟩
   have hf:fieldAt m i = 4:=by simp [fieldAt,ha38,b8,b15,b22,b32,b46,b47,q8,q15,q22,q32]
   have hF:Ew m = 4:=by rw [Ew,if_neg (by omega),Db p26_1 (by omega) hf (by omega)]
   rw [Ch,Gt q8,Gt q15,hF,Rx (by omega)]
  have b49:=not_eq_f b46
  refine Al ?_
  apply k42
  refine Ai fun K50 k50=>?_
  refine w_q rfl rfl fun K51 k51=>?_
  refine l_A (iV (0)) rfl rfl ?_
  apply Ac
  apply k51
  refine Ao ?_
  refine Cc (fun mm ee dd ρ' σ'=>∃ (k:Nat),(i - k) = mm∧[] = dd∧ρ41 = ρ'∧σ = σ'∧ee 1 = (.pointer (some ⟨k2,0,none⟩))∧ee 5 = (iV ((i:Int)))∧ee 6 = (.pointer (some ⟨k40,0,none⟩))∧ee 7 = (iV ((k:Int)))∧(k ≤ i)∧(∀ j,j < k→Mq m a38.name j = false)∧True) (m:=_) ⟨0,rfl,rfl,rfl,rfl,h26_1,h26_5,rfl,rfl,(Nat.zero_le _),(fun j h=>absurd h (Nat.not_lt_zero _)),trivial⟩ ?_
  rintro m52 e52 _ _ _ ⟨k,rfl,rfl,rfl,rfl,h52_1,h52_5,h52_6,h52_7,p52_0,p52_1,_⟩
  refine Ai fun K53 k53=>?_
  refine w_q rfl rfl fun K54 k54=>?_
  refine Aa rfl (Ah (v:=(iV ((k:Int)))) h52_7) ?_
  refine Aa rfl (Ah (v:=(iV ((i:Int)))) h52_5) ?_
  refine Aa rfl (Da (p:=(k:Int)) (q:=(i:Int)) rfl rfl) ?_
  apply Ac
  apply k54
  refine As (t:=decide ((k:Int) < (i:Int))) rfl (fun b55=>?_) (fun b55=>?_)
  ·have q55:=of_decide_eq_true b55
   refine Al ?_
   apply k53
   refine Ai fun K56 k56=>?_
   refine Ao ?_
   refine Ai fun K57 k57=>?_
   refine Dc [0,1,2,3,4,5,6,7,8] (by kernel_rfl) rfl rfl ?_
   refine Cd (i:=0) Aov rfl (by kernel_rfl) rfl Ary rfl (Ay Market.f_fields Tryd.underlying26 rfl rfl Se (by decide) h52_1 r2) fun v58 r58=>?_
   refine Cd (i:=1) Aof rfl (by kernel_rfl) rfl Ary rfl (Ax Se rfl r58) fun v59 r59=>?_
   refine Be (i:=2) Apd rfl (by kernel_rfl) rfl Ary rfl (Ah (v:=(iV ((k:Int)))) h52_7) ?_
   obtain ⟨a61,ha61⟩:=Ed (xs:=m.fields) (i:=k) (by omega)
   refine Cd (i:=3) Anf rfl (by kernel_rfl) rfl Ary rfl (Ci k Tryd.underlying23 Ln rfl r59 (q:=(k:Int)) rfl rfl ha61) fun v60 r60=>?_
   refine Cd (i:=4) Aon rfl (by kernel_rfl) rfl Ary rfl (Ay FField.f_name Tryd.underlying67 rfl rfl ty9 (by decide) rfl r60) fun v62 r62=>?_
   have g63:=At.slen r62
   refine Be (i:=5) Aob rfl (by kernel_rfl) rfl Ary rfl (Oz ty9 rfl r62) ?_
   refine Hl (i:=6) Aow rfl (by kernel_rfl) rfl Ary rfl (Ay FField.f_name Tryd.underlying67 rfl rfl ty9 (by decide) h52_6 r41) fun v64 r64=>?_
   have g65:=At.slen r64
   refine Bg (i:=7) Anz rfl (by kernel_rfl) rfl Ary rfl (Oz ty9 rfl r64) ?_
   refine Bg (i:=8) Anb rfl (by kernel_rfl) rfl Ary rfl (y_eqs (p:=a61.name) (q:=a38.name) rfl rfl) ?_
   refine Ec rfl ?_
   apply k57
   refine As (t:=(a61.name).toList == (a38.name).toList) rfl (fun b66=>?_) (fun b66=>?_)
   ·have q66:=Jo b66
    refine w_q rfl rfl fun K67 k67=>?_
    refine l_A (iV (5)) rfl rfl ?_
    apply Ac
    apply k67
    refine Aj (Arw (Arz l2 l41)) ?_
    refine Aq ?_
    refine hret _ _ _ ?_
    refine ⟨rfl,rfl,Eq.trans (b:=(iV (5))) rfl ?_⟩
    have hi:Cl i (Mq m a38.name) = some k:=Fg p52_1 (by omega) (by simp [Mq,ha61,b8,b15,b22,b32,b46,b49,b55,b66,q8,q15,q22,q32,q55,q66])
    have hf:fieldAt m i = 5:=by simp [fieldAt,ha38,hi,b8,b15,b22,b32,b46,b49,b55,b66,q8,q15,q22,q32,q55,q66]
    have hF:Ew m = 5:=by rw [Ew,if_neg (by omega),Db p26_1 (by omega) hf (by omega)]
    rw [Ch,Gt q8,Gt q15,hF,Rx (by omega)]
   have q66:=La b66
   refine Al ?_
   apply k56
   refine Ag rfl rfl ?_
   refine Aa rfl (Ah (v:=(iV ((k:Int)))) h52_7) ?_
   refine Aa rfl (Br (p:=(k:Int)) (q:=1) rfl rfl (z:=(((k + 1):Nat):Int)) (Bo (by first | rfl | omega | (push_cast; rfl)) (by omega) (by omega))) ?_
   refine l_A (iV ((((k + 1):Nat):Int))) rfl rfl ?_
   apply Ac
   refine ⟨_,?_,((k + 1)),rfl,rfl,rfl,rfl,h52_1,h52_5,h52_6,rfl,(by omega),(Ef p52_1 (by simp [Mq,ha61,b8,b15,b22,b32,b46,b49,b55,b66,q8,q15,q22,q32,q55,q66])),trivial⟩
   omega
  have q55:=of_decide_eq_false b55
  refine Bx ?_
  apply k50
  refine Ai fun K68 k68=>?_
  refine w_q rfl rfl fun K69 k69=>?_
  refine Ak rfl (Ay FField.f_house Tryd.underlying67 rfl rfl ty3 (by decide) h52_6 r41) fun v70 r70=>?_
  have ⟨g71a,g71b⟩:=At.rng r70
  refine Aa rfl (Bc ty3 rfl r70) ?_
  refine Ak rfl (Ay Market.f_houses Tryd.underlying26 rfl rfl Hu (by decide) h52_1 r2) fun v72 r72=>?_
  refine Ak rfl (Ax Hu rfl r72) fun v73 r73=>?_
  have g74:=Val.len r73
  refine Aa rfl (Ce (el:=9) Tryd.underlying22 rfl r73) ?_
  refine Aa rfl (Oq (p:=((m.houses.length:Nat):Int)) (q:=1) rfl rfl (z:=(((m.houses.length:Nat):Int) - 1)) (Bo (by first | rfl | omega | (push_cast; rfl)) (by omega) (by omega))) ?_
  refine Ae rfl (Bn (vs:=[(iV (a38.house)),(iV (0)),(iV ((((m.houses.length:Nat):Int) - 1)))]) (v:=(.bool (inR a38.house 0 ((((m.houses.length:Nat):Int) - 1))))) (c_In) Tryd.func79 rfl rfl ⟨rfl,rfl,rfl,trivial⟩ ?_)
  refine Aa rfl (Ix (k:=inR a38.house 0 ((((m.houses.length:Nat):Int) - 1))) rfl) ?_
  apply Ac
  apply k69
  refine As (t:=!(inR a38.house 0 ((((m.houses.length:Nat):Int) - 1)))) rfl (fun b75=>?_) (fun b75=>?_)
  ·have b76:=not_eq_t b75
   have q76:=Ui.1 b76
   refine w_q rfl rfl fun K77 k77=>?_
   refine l_A (iV (6)) rfl rfl ?_
   apply Ac
   apply k77
   refine Aj (Arw (Arz l2 l41)) ?_
   refine Aq ?_
   refine hret _ _ _ ?_
   refine ⟨rfl,rfl,Eq.trans (b:=(iV (6))) rfl ?_⟩
   have hi:Cl i (Mq m a38.name) = none:=Ep fun j hj=>p52_1 j (by omega)
   have hf:fieldAt m i = 6:=by simp [fieldAt,ha38,hi,b8,b15,b22,b32,b46,b49,b55,b75,b76,q8,q15,q22,q32,q55,q76]
   have hF:Ew m = 6:=by rw [Ew,if_neg (by omega),Db p26_1 (by omega) hf (by omega)]
   rw [Ch,Gt q8,Gt q15,hF,Rx (by omega)]
  have b78:=not_eq_f b75
  have q78:=Ge.1 b78
  refine Al ?_
  apply k68
  refine Ai fun K79 k79=>?_
  refine w_q rfl rfl fun K80 k80=>?_
  refine Ak rfl (Ay FField.f_grows Tryd.underlying67 rfl rfl Mx (by decide) h52_6 r41) fun v81 r81=>?_
  refine Ak rfl (Ax Mx rfl r81) fun v82 r82=>?_
  refine Ae rfl (Bn (vs:=[v82,(iV (0)),(iV (1000000))]) (v:=(.bool (Eg a38.grows 0 1000000))) (c_Inside r82) Tryd.func80 rfl rfl ⟨rfl,rfl,rfl,trivial⟩ ?_)
  refine Aa rfl (Ix (k:=Eg a38.grows 0 1000000) rfl) ?_
  apply Ac
  apply k80
  refine As (t:=!(Eg a38.grows 0 1000000)) rfl (fun b83=>?_) (fun b83=>?_)
  ·have b84:=not_eq_t b83
   refine w_q rfl rfl fun K85 k85=>?_
   refine l_A (iV (1)) rfl rfl ?_
   apply Ac
   apply k85
   refine Aj (Arw (Arz l2 l41)) ?_
   refine Aq ?_
   refine hret _ _ _ ?_
   refine ⟨rfl,rfl,Eq.trans (b:=(iV (1))) rfl ?_⟩
   have hi:Cl i (Mq m a38.name) = none:=Ep fun j hj=>p52_1 j (by omega)
   have hf:fieldAt m i = 1:=by simp [fieldAt,ha38,hi,b8,b15,b22,b32,b46,b49,b55,b75,b78,b83,b84,q8,q15,q22,q32,q55,q78]
   have hF:Ew m = 1:=by rw [Ew,if_neg (by omega),Db p26_1 (by omega) hf (by omega)]
   rw [Ch,Gt q8,Gt q15,hF,Rx (by omega)]
  have b86:=not_eq_f b83
  refine Al ?_
  apply k79
  refine w_q rfl rfl fun K87 k87=>?_
  refine Ak rfl (Ay FField.f_marks Tryd.underlying67 rfl rfl Ty (by decide) h52_6 r41) fun v88 r88=>?_
  refine Ak rfl (Ax Ty rfl r88) fun v89 r89=>?_
  refine Ak rfl (Ay Market.f_marks Tryd.underlying26 rfl rfl Hu (by decide) h52_1 r2) fun v90 r90=>?_
  refine Ak rfl (Ax Hu rfl r90) fun v91 r91=>?_
  have g92:=Val.len r91
  refine Aa rfl (Ce (el:=9) Tryd.underlying22 rfl r91) ?_
  refine Ae rfl (Bn (vs:=[v89,(iV (((m.marks.length:Nat):Int)))]) (v:=(iV (Fl a38.marks (((m.marks.length:Nat):Int))))) (c_checkSpans r89) Tryd.func81 rfl rfl ⟨rfl,rfl,trivial⟩ ?_)
  refine l_A (iV (Fl a38.marks (((m.marks.length:Nat):Int)))) rfl rfl ?_
  apply Ac
  apply k87
  refine w_q rfl rfl fun K93 k93=>?_
  refine l_M (iV (Fl a38.marks (((m.marks.length:Nat):Int)))) rfl rfl ?_
  refine Aa rfl (Dg (p:=Fl a38.marks (((m.marks.length:Nat):Int))) (q:=0) rfl rfl) ?_
  apply Ac
  apply k93
  refine As (t:=Fl a38.marks (((m.marks.length:Nat):Int)) != 0) rfl (fun b94=>?_) (fun b94=>?_)
  ·have q94:=Mb b94
   refine w_q rfl rfl fun K95 k95=>?_
   refine l_M (iV (Fl a38.marks (((m.marks.length:Nat):Int)))) rfl rfl ?_
   refine l_A (iV (Fl a38.marks (((m.marks.length:Nat):Int)))) rfl rfl ?_
   apply Ac
   apply k95
   refine Aj (Arw (Arz l2 l41)) ?_
   refine Aq ?_
   refine hret _ _ _ ?_
   refine ⟨rfl,rfl,Eq.trans (b:=(iV (Fl a38.marks (((m.marks.length:Nat):Int))))) rfl ?_⟩
   have hi:Cl i (Mq m a38.name) = none:=Ep fun j hj=>p52_1 j (by omega)
   have hf:fieldAt m i = Fl a38.marks (((m.marks.length:Nat):Int)):=by simp [fieldAt,ha38,hi,b8,b15,b22,b32,b46,b49,b55,b75,b78,b83,b86,b94,q8,q15,q22,q32,q55,q78,q94]
   have hF:Ew m = Fl a38.marks (((m.marks.length:Nat):Int)):=by rw [Ew,if_neg (by omega),Db p26_1 (by omega) hf q94]
   rw [Ch,Gt q8,Gt q15,hF,Rx q94]
  have q94:=Jh b94
  refine Al ?_
  apply k33
  refine Ag rfl rfl ?_
  refine Aa rfl (Ah (v:=(iV ((i:Int)))) h52_5) ?_
  refine Aa rfl (Br (p:=(i:Int)) (q:=1) rfl rfl (z:=(((i + 1):Nat):Int)) (Bo (by first | rfl | omega | (push_cast; rfl)) (by omega) (by omega))) ?_
  refine l_A (iV ((((i + 1):Nat):Int))) rfl rfl ?_
  refine Bj (Arw l41) ?_
  apply Ac
  refine ⟨_,?_,((i + 1)),rfl,rfl,rfl,rfl,h52_1,rfl,(by omega),(Ef p26_1 (by
  have hi:Cl i (Mq m a38.name) = none:=Ep fun j hj=>p52_1 j (by omega)
  simp [fieldAt,ha38,hi,b8,b15,b22,b32,b46,b49,b55,b75,b78,b83,b86,b94,q8,q15,q22,q32,q55,q78,q94])),trivial⟩
  omega
 have q32:=of_decide_eq_false b32
 refine Bx ?_
 apply k24
 refine Ai fun K96 k96=>?_
 refine w_q rfl rfl fun K97 k97=>?_
 refine Ak rfl (Ay Market.f_sales Tryd.underlying26 rfl rfl Pq (by decide) h26_1 r2) fun v98 r98=>?_
 refine Ak rfl (Ax Pq rfl r98) fun v99 r99=>?_
 have g100:=Val.len r99
 refine Aa rfl (Ce (el:=59) Tryd.underlying24 rfl r99) ?_
 refine Aa rfl (Gk (p:=((m.sales.length:Nat):Int)) (q:=8) rfl rfl) ?_
 apply Ac
 apply k97
 refine As (t:=decide (((m.sales.length:Nat):Int) > 8)) rfl (fun b101=>?_) (fun b101=>?_)
 ·have q101:=of_decide_eq_true b101
  refine w_q rfl rfl fun K102 k102=>?_
  refine l_A (iV (2)) rfl rfl ?_
  apply Ac
  apply k102
  refine Aj (Arw l2) ?_
  refine Aq ?_
  refine hret _ _ _ ?_
  refine ⟨rfl,rfl,Eq.trans (b:=(iV (2))) rfl ?_⟩
  have hF:Ew m = 0:=by rw [Ew,if_neg (by omega),Fb fun j hj=>p26_1 j (by omega)]
  rw [Ch,Gt q8,Gt q15,Gt hF,Jb,if_pos (by omega)]
 have q101:=of_decide_eq_false b101
 refine Al ?_
 apply k96
 refine Ai fun K103 k103=>?_
 refine w_q rfl rfl fun K104 k104=>?_
 refine l_A (iV (0)) rfl rfl ?_
 apply Ac
 apply k104
 refine Ao ?_
 refine Cc (fun mm ee dd ρ' σ'=>∃ (s:Nat),(m.sales.length - s) = mm∧[] = dd∧ρ2 = ρ'∧σ = σ'∧ee 1 = (.pointer (some ⟨k2,0,none⟩))∧ee 9 = (iV ((s:Int)))∧(s ≤ m.sales.length)∧(∀ j,j < s→Iz m j = 0)∧True) (m:=_) ⟨0,rfl,rfl,rfl,rfl,h26_1,rfl,(Nat.zero_le _),(fun j h=>absurd h (Nat.not_lt_zero _)),trivial⟩ ?_
 rintro m105 e105 _ _ _ ⟨s,rfl,rfl,rfl,rfl,h105_1,h105_9,p105_0,p105_1,_⟩
 refine Ai fun K106 k106=>?_
 refine w_q rfl rfl fun K107 k107=>?_
 refine Aa rfl (Ah (v:=(iV ((s:Int)))) h105_9) ?_
 refine Ak rfl (Ay Market.f_sales Tryd.underlying26 rfl rfl Pq (by decide) h105_1 r2) fun v108 r108=>?_
 refine Ak rfl (Ax Pq rfl r108) fun v109 r109=>?_
 have g110:=Val.len r109
 refine Aa rfl (Ce (el:=59) Tryd.underlying24 rfl r109) ?_
 refine Aa rfl (Da (p:=(s:Int)) (q:=((m.sales.length:Nat):Int)) rfl rfl) ?_
 apply Ac
 apply k107
 refine As (t:=decide ((s:Int) < ((m.sales.length:Nat):Int))) rfl (fun b111=>?_) (fun b111=>?_)
 ·have q111:=of_decide_eq_true b111
  refine Al ?_
  apply k106
  refine Ai fun K112 k112=>?_
  refine Ao ?_
  refine w_q rfl rfl fun K113 k113=>?_
  refine Ak rfl (Ay Market.f_sales Tryd.underlying26 rfl rfl Pq (by decide) h105_1 r2) fun v114 r114=>?_
  refine Ak rfl (Ax Pq rfl r114) fun v115 r115=>?_
  refine Aa rfl (Ah (v:=(iV ((s:Int)))) h105_9) ?_
  obtain ⟨a117,ha117⟩:=Ed (xs:=m.sales) (i:=s) (by omega)
  refine Ak rfl (Ci s Tryd.underlying24 Su rfl r115 (q:=(s:Int)) rfl rfl ha117) fun v116 r116=>?_
  refine Ak rfl (Ax Su rfl r116) fun v118 r118=>?_
  refine Ae rfl (Ct Aeo fun k119=>?_)
  refine Cx rfl (Du (v:=v118) (a:=a117) (c:=Ags) Su rfl rfl r118 rfl ?_)
  refine Bb (a:=a117) r118 fun ρ120 l120 r120=>?_
  replace r2:=Arv l120 r2
  replace r114:=Arv l120 r114
  replace r115:=Asa l120 r115
  replace r116:=Arv l120 r116
  replace r118:=Asa l120 r118
  apply Ac
  apply k113
  refine Ai fun K121 k121=>?_
  refine w_q rfl rfl fun K122 k122=>?_
  refine Ak rfl (Ay Sale.f_grams Tryd.underlying59 rfl rfl ty3 (by decide) rfl r120) fun v123 r123=>?_
  have ⟨g124a,g124b⟩:=At.rng r123
  refine Aa rfl (Bc ty3 rfl r123) ?_
  refine Ae rfl (Bn (vs:=[(iV (a117.grams)),(iV (0)),(iV (1000000))]) (v:=(.bool (inR a117.grams 0 1000000))) (c_In) Tryd.func79 rfl rfl ⟨rfl,rfl,rfl,trivial⟩ ?_)
  refine Aa rfl (Ix (k:=inR a117.grams 0 1000000) rfl) ?_
  apply Ac
  apply k122
  refine As (t:=!(inR a117.grams 0 1000000)) rfl (fun b125=>?_) (fun b125=>?_)
  ·have b126:=not_eq_t b125
   have q126:=Ui.1 b126
   refine w_q rfl rfl fun K127 k127=>?_
   refine l_A (iV (1)) rfl rfl ?_
   apply Ac
   apply k127
   refine Aj (Arw (Arz l2 l120)) ?_
   refine Aq ?_
   refine hret _ _ _ ?_
   refine ⟨rfl,rfl,Eq.trans (b:=(iV (1))) rfl ?_⟩
   have hF:Ew m = 0:=by rw [Ew,if_neg (by omega),Fb fun j hj=>p26_1 j (by omega)]
   have hf:Iz m s = 1:=by simp [Iz,ha117,b8,b15,b22,b32,b101,b111,b125,b126,q8,q15,q22,q32,q101,q111,q126]
   rw [Ch,Gt q8,Gt q15,Gt hF,Jb,if_neg (by omega),Db p105_1 (by omega) hf (by omega)]
  have b128:=not_eq_f b125
  have q128:=Ge.1 b128
  refine Al ?_
  apply k121
  refine Ai fun K129 k129=>?_
  refine w_q rfl rfl fun K130 k130=>?_
  refine Ak rfl (Ay Sale.f_sellers Tryd.underlying59 rfl rfl Vg (by decide) rfl r120) fun v131 r131=>?_
  refine Ak rfl (Ax Vg rfl r131) fun v132 r132=>?_
  have g133:=Val.len r132
  refine Aa rfl (Ce (el:=3) Tryd.underlying30 rfl r132) ?_
  refine Aa rfl (Ek (p:=((a117.sellers.length:Nat):Int)) (q:=0) rfl rfl) ?_
  apply Ac
  apply k130
  refine As (t:=((a117.sellers.length:Nat):Int) == 0) rfl (fun b134=>?_) (fun b134=>?_)
  ·have q134:=Jo b134
   refine w_q rfl rfl fun K135 k135=>?_
   refine l_A (iV (2)) rfl rfl ?_
   apply Ac
   apply k135
   refine Aj (Arw (Arz l2 l120)) ?_
   refine Aq ?_
   refine hret _ _ _ ?_
   refine ⟨rfl,rfl,Eq.trans (b:=(iV (2))) rfl ?_⟩
   have hF:Ew m = 0:=by rw [Ew,if_neg (by omega),Fb fun j hj=>p26_1 j (by omega)]
   have hf:Iz m s = 2:=by simp [Iz,ha117,b8,b15,b22,b32,b101,b111,b125,b128,b134,q8,q15,q22,q32,q101,q111,q128,q134]
   rw [Ch,Gt q8,Gt q15,Gt hF,Jb,if_neg (by omega),Db p105_1 (by omega) hf (by omega)]
  have q134:=La b134
  refine Al ?_
  apply k129
  refine w_q rfl rfl fun K136 k136=>?_
  refine l_A (iV (0)) rfl rfl ?_
  apply Ac
  apply k136
  refine Ao ?_
  refine Cc (fun mm ee dd ρ' σ'=>∃ (q:Nat),(a117.sellers.length - q) = mm∧[] = dd∧ρ120 = ρ'∧σ = σ'∧ee 1 = (.pointer (some ⟨k2,0,none⟩))∧ee 9 = (iV ((s:Int)))∧ee 10 = (.pointer (some ⟨k119,0,none⟩))∧ee 11 = (iV ((q:Int)))∧(q ≤ a117.sellers.length)∧(∀ j,j < q→Gu m a117 j = 0)∧True) (m:=_) ⟨0,rfl,rfl,rfl,rfl,h105_1,h105_9,rfl,rfl,(Nat.zero_le _),(fun j h=>absurd h (Nat.not_lt_zero _)),trivial⟩ ?_
  rintro m137 e137 _ _ _ ⟨q,rfl,rfl,rfl,rfl,h137_1,h137_9,h137_10,h137_11,p137_0,p137_1,_⟩
  refine Ai fun K138 k138=>?_
  refine w_q rfl rfl fun K139 k139=>?_
  refine Aa rfl (Ah (v:=(iV ((q:Int)))) h137_11) ?_
  refine Ak rfl (Ay Sale.f_sellers Tryd.underlying59 rfl rfl Vg (by decide) h137_10 r120) fun v140 r140=>?_
  refine Ak rfl (Ax Vg rfl r140) fun v141 r141=>?_
  have g142:=Val.len r141
  refine Aa rfl (Ce (el:=3) Tryd.underlying30 rfl r141) ?_
  refine Aa rfl (Da (p:=(q:Int)) (q:=((a117.sellers.length:Nat):Int)) rfl rfl) ?_
  apply Ac
  apply k139
  refine As (t:=decide ((q:Int) < ((a117.sellers.length:Nat):Int))) rfl (fun b143=>?_) (fun b143=>?_)
  ·have q143:=of_decide_eq_true b143
   refine Al ?_
   apply k138
   refine Ai fun K144 k144=>?_
   refine Ao ?_
   refine Ai fun K145 k145=>?_
   refine Ai fun K146 k146=>?_
   refine Dc [0,1,2,3,4,5,6,7,8,9,10] (by kernel_rfl) rfl rfl ?_
   refine Cd (i:=0) [o1,o0,o0,o0,o0,o0,o0,o0,o0,o0,o0] rfl (by kernel_rfl) rfl Ary rfl (Ay Sale.f_sellers Tryd.underlying59 rfl rfl Vg (by decide) h137_10 r120) fun v147 r147=>?_
   refine Cd (i:=1) [o1,o1,o0,o0,o0,o0,o0,o0,o0,o0,o0] rfl (by kernel_rfl) rfl Ary rfl (Ax Vg rfl r147) fun v148 r148=>?_
   refine Be (i:=2) [o1,o1,o1,o0,o0,o0,o0,o0,o0,o0,o0] rfl (by kernel_rfl) rfl Ary rfl (Ah (v:=(iV ((q:Int)))) h137_11) ?_
   obtain ⟨a150,ha150⟩:=Ed (xs:=a117.sellers) (i:=q) (by omega)
   refine Cd (i:=3) [o1,o1,o1,o1,o0,o0,o0,o0,o0,o0,o0] rfl (by kernel_rfl) rfl Ary rfl (Ci q Tryd.underlying30 ty3 rfl r148 (q:=(q:Int)) rfl rfl ha150) fun v149 r149=>?_
   have ⟨g151a,g151b⟩:=At.rng r149
   refine Be (i:=4) [o1,o1,o1,o1,o1,o0,o0,o0,o0,o0,o0] rfl (by kernel_rfl) rfl Ary rfl (Bc ty3 rfl r149) ?_
   refine Hl (i:=5) Apb rfl (by kernel_rfl) rfl Ary rfl (Ay Market.f_houses Tryd.underlying26 rfl rfl Hu (by decide) h137_1 r2) fun v152 r152=>?_
   refine Hl (i:=6) zZ2 rfl (by kernel_rfl) rfl Ary rfl (Ax Hu rfl r152) fun v153 r153=>?_
   have g154:=Val.len r153
   refine Bg (i:=7) zZ3 rfl (by kernel_rfl) rfl Ary rfl (Ce (el:=9) Tryd.underlying22 rfl r153) ?_
   refine Bg (i:=8) zZ4 rfl (by kernel_rfl) rfl Ary rfl (Oq (p:=((m.houses.length:Nat):Int)) (q:=1) rfl rfl (z:=(((m.houses.length:Nat):Int) - 1)) (Bo (by first | rfl | omega | (push_cast; rfl)) (by omega) (by omega))) ?_
   refine Dj (i:=9) zZ5 rfl (by kernel_rfl) rfl rfl (Bn (vs:=[(iV (a150)),(iV (0)),(iV ((((m.houses.length:Nat):Int) - 1)))]) (v:=(.bool (inR a150 0 ((((m.houses.length:Nat):Int) - 1))))) (c_In) Tryd.func79 rfl rfl ⟨rfl,rfl,rfl,trivial⟩ ⟨Ary,?_⟩)
   refine Bg (i:=10) zZ6 rfl (by kernel_rfl) rfl Ary rfl (Ix (k:=inR a150 0 ((((m.houses.length:Nat):Int) - 1))) rfl) ?_
   refine Ec rfl ?_
   apply k146
   refine As (t:=!(inR a150 0 ((((m.houses.length:Nat):Int) - 1)))) rfl (fun b155=>?_) (fun b155=>?_)
   ·have b156:=not_eq_t b155
    have q156:=Ui.1 b156
    refine w_q rfl rfl fun K157 k157=>?_
    refine l_A (iV (6)) rfl rfl ?_
    apply Ac
    apply k157
    refine Aj (Arw (Arz l2 l120)) ?_
    refine Aq ?_
    refine hret _ _ _ ?_
    refine ⟨rfl,rfl,Eq.trans (b:=(iV (6))) rfl ?_⟩
    have hF:Ew m = 0:=by rw [Ew,if_neg (by omega),Fb fun j hj=>p26_1 j (by omega)]
    have hq:Gu m a117 q = 6:=by
     simp [Gu,ha150,b8,b15,b22,b32,b101,b111,b125,b128,b134,b143,b155,b156]
    have hf:Iz m s = 6:=by simp only [Iz,ha117,b8,b15,b22,b32,b101,b111,b125,b128,b134,b143,b155,b156,if_true]; rw [if_neg (by omega),Db p137_1 (by omega) hq (by omega)]
    rw [Ch,Gt q8,Gt q15,Gt hF,Jb,if_neg (by omega),Db p105_1 (by omega) hf (by omega)]
   have b158:=not_eq_f b155
   have q158:=Ge.1 b158
   refine Al ?_
   apply k145
   refine Ai fun K159 k159=>?_
   refine Dc [0,1,2,3,4,5,6,7,8,9,10,11,12,13,14,15] (by kernel_rfl) rfl rfl ?_
   refine Bg (i:=0) Apx rfl (by kernel_rfl) rfl Ary rfl (Ah (v:=(iV ((q:Int)))) h137_11) ?_
   refine Bg (i:=1) Arn rfl (by kernel_rfl) rfl Ary rfl (Gk (p:=(q:Int)) (q:=0) rfl rfl) ?_
   refine Bg (i:=2) Aqz rfl (by kernel_rfl) rfl Ary rfl (Ah (v:=(.bool (decide ((q:Int) > 0)))) rfl) ?_
   refine Akl (decide ((q:Int) > 0)) (fun b160=>?_) (fun b160=>?_)
   ·have q160:=of_decide_eq_true b160
    refine Cd (i:=3) Arc rfl (by kernel_rfl) rfl Ary (Ar rfl rfl rfl b160) (Ay Sale.f_sellers Tryd.underlying59 rfl rfl Vg (by decide) h137_10 r120) fun v161 r161=>?_
    refine Cd (i:=4) Ark rfl (by kernel_rfl) rfl Ary (Ar rfl rfl rfl b160) (Ax Vg rfl r161) fun v162 r162=>?_
    refine Be (i:=5) Aqg rfl (by kernel_rfl) rfl Ary (Ar rfl rfl rfl b160) (Ah (v:=(iV ((q:Int)))) h137_11) ?_
    refine Cd (i:=6) Aqb rfl (by kernel_rfl) rfl Ary (Ar rfl rfl rfl b160) (Ci q Tryd.underlying30 ty3 rfl r162 (q:=(q:Int)) rfl rfl ha150) fun v163 r163=>?_
    have ⟨g164a,g164b⟩:=At.rng r163
    refine Be (i:=7) Aoa rfl (by kernel_rfl) rfl Ary (Ar rfl rfl rfl b160) (Bc ty3 rfl r163) ?_
    refine Cd (i:=8) Amy rfl (by kernel_rfl) rfl Ary (Ar rfl rfl rfl b160) (Ay Sale.f_sellers Tryd.underlying59 rfl rfl Vg (by decide) h137_10 r120) fun v165 r165=>?_
    refine Cd (i:=9) Anr rfl (by kernel_rfl) rfl Ary (Ar rfl rfl rfl b160) (Ax Vg rfl r165) fun v166 r166=>?_
    refine Bg (i:=10) [o1,o1,o1,o1,o1,o1,o1,o1,o1,o1,o1,o0,o0,o0,o0,o0] rfl (by kernel_rfl) rfl Ary (Ar rfl rfl rfl b160) (Ah (v:=(iV ((q:Int)))) h137_11) ?_
    refine Bg (i:=11) [o1,o1,o1,o1,o1,o1,o1,o1,o1,o1,o1,o1,o0,o0,o0,o0] rfl (by kernel_rfl) rfl Ary (Ar rfl rfl rfl b160) (Oq (p:=(q:Int)) (q:=1) rfl rfl (z:=((q:Int) - 1)) (Bo (by first | rfl | omega | (push_cast; rfl)) (by omega) (by omega))) ?_
    obtain ⟨a168,ha168⟩:=Ed (xs:=a117.sellers) (i:=(((q:Int) - 1)).toNat) (by omega)
    refine Hl (i:=12) Ans rfl (by kernel_rfl) rfl Ary (Ar rfl rfl rfl b160) (Ci ((((q:Int) - 1)).toNat) Tryd.underlying30 ty3 rfl r166 (q:=((q:Int) - 1)) rfl (by omega) ha168) fun v167 r167=>?_
    have ⟨g169a,g169b⟩:=At.rng r167
    refine Bg (i:=13) Apc rfl (by kernel_rfl) rfl Ary (Ar rfl rfl rfl b160) (Bc ty3 rfl r167) ?_
    refine Bg (i:=14) Amv rfl (by kernel_rfl) rfl Ary (Ar rfl rfl rfl b160) (Tx (p:=a150) (q:=a168) rfl rfl) ?_
    refine Bg (i:=15) Apa rfl (by kernel_rfl) rfl Ary rfl (Bt rfl b160 (v:=(.bool (decide (a150 ≤ a168)))) rfl) ?_
    refine Ec rfl ?_
    apply k159
    refine As (t:=decide (a150 ≤ a168)) rfl (fun b170=>?_) (fun b170=>?_)
    ·have q170:=of_decide_eq_true b170
     refine w_q rfl rfl fun K171 k171=>?_
     refine l_A (iV (7)) rfl rfl ?_
     apply Ac
     apply k171
     refine Aj (Arw (Arz l2 l120)) ?_
     refine Aq ?_
     refine hret _ _ _ ?_
     refine ⟨rfl,rfl,Eq.trans (b:=(iV (7))) rfl ?_⟩
     have hF:Ew m = 0:=by rw [Ew,if_neg (by omega),Fb fun j hj=>p26_1 j (by omega)]
     have hq:Gu m a117 q = 7:=by
      have hp:a117.sellers[q - 1]? = some a168:=by rw [← ha168]; congr 1; omega
      have h0:0 < q:=by omega
      simp only [Gu,ha150,if_pos h0,hp,b8,b15,b22,b32,b101,b111,b125,b128,b134,b143,b155,b158,b160,b170,if_true]; first | rw [if_pos (by omega)] | rw [if_neg (by omega)]
     have hf:Iz m s = 7:=by simp only [Iz,ha117,b8,b15,b22,b32,b101,b111,b125,b128,b134,b143,b155,b158,b160,b170,if_true]; rw [if_neg (by omega),Db p137_1 (by omega) hq (by omega)]
     rw [Ch,Gt q8,Gt q15,Gt hF,Jb,if_neg (by omega),Db p105_1 (by omega) hf (by omega)]
    have q170:=of_decide_eq_false b170
    refine Al ?_
    apply k144
    refine Ag rfl rfl ?_
    refine Aa rfl (Ah (v:=(iV ((q:Int)))) h137_11) ?_
    refine Aa rfl (Br (p:=(q:Int)) (q:=1) rfl rfl (z:=(((q + 1):Nat):Int)) (Bo (by first | rfl | omega | (push_cast; rfl)) (by omega) (by omega))) ?_
    refine l_A (iV ((((q + 1):Nat):Int))) rfl rfl ?_
    apply Ac
    refine ⟨_,?_,((q + 1)),rfl,rfl,rfl,rfl,h137_1,h137_9,h137_10,rfl,(by omega),(Ef p137_1 (by
 have hp:a117.sellers[q - 1]? = some a168:=by rw [← ha168]; congr 1; omega
 have h0:0 < q:=by omega
 simp only [Gu,ha150,if_pos h0,hp,b8,b15,b22,b32,b101,b111,b125,b128,b134,b143,b155,b158,b160,b170,if_true]; first | rw [if_pos (by omega)] | rw [if_neg (by omega)])),trivial⟩
    omega
   have q160:=of_decide_eq_false b160
   refine Ua (i:=3) Arc rfl (by kernel_rfl) rfl Ary (Bl rfl rfl rfl b160) ?_
   refine Ua (i:=4) Ark rfl (by kernel_rfl) rfl Ary (Bl rfl rfl rfl b160) ?_
   refine Ua (i:=5) Aqg rfl (by kernel_rfl) rfl Ary (Bl rfl rfl rfl b160) ?_
   refine Ua (i:=6) Aqb rfl (by kernel_rfl) rfl Ary (Bl rfl rfl rfl b160) ?_
   refine Ua (i:=7) Aoa rfl (by kernel_rfl) rfl Ary (Bl rfl rfl rfl b160) ?_
   refine Ua (i:=8) Amy rfl (by kernel_rfl) rfl Ary (Bl rfl rfl rfl b160) ?_
   refine Ua (i:=9) Anr rfl (by kernel_rfl) rfl Ary (Bl rfl rfl rfl b160) ?_
   refine Xl (i:=10) [o1,o1,o1,o1,o1,o1,o1,o1,o1,o1,o1,o0,o0,o0,o0,o0] rfl (by kernel_rfl) rfl Ary (Bl rfl rfl rfl b160) ?_
   refine Xl (i:=11) [o1,o1,o1,o1,o1,o1,o1,o1,o1,o1,o1,o1,o0,o0,o0,o0] rfl (by kernel_rfl) rfl Ary (Bl rfl rfl rfl b160) ?_
   refine Xl (i:=12) Ans rfl (by kernel_rfl) rfl Ary (Bl rfl rfl rfl b160) ?_
   refine Xl (i:=13) Apc rfl (by kernel_rfl) rfl Ary (Bl rfl rfl rfl b160) ?_
   refine Xl (i:=14) Amv rfl (by kernel_rfl) rfl Ary (Bl rfl rfl rfl b160) ?_
   refine Bg (i:=15) Apa rfl (by kernel_rfl) rfl Ary rfl (Bm rfl b160 (v:=(.bool (false))) rfl) ?_
   refine Ec rfl ?_
   apply k159
   refine Cg rfl rfl ?_
   refine Al ?_
   apply k144
   refine Ag rfl rfl ?_
   refine Aa rfl (Ah (v:=(iV ((q:Int)))) h137_11) ?_
   refine Aa rfl (Br (p:=(q:Int)) (q:=1) rfl rfl (z:=(((q + 1):Nat):Int)) (Bo (by first | rfl | omega | (push_cast; rfl)) (by omega) (by omega))) ?_
   refine l_A (iV ((((q + 1):Nat):Int))) rfl rfl ?_
   apply Ac
   refine ⟨_,?_,((q + 1)),rfl,rfl,rfl,rfl,h137_1,h137_9,h137_10,rfl,(by omega),(Ef p137_1 (by
 have h0:¬ 0 < q:=by omega
 simp [Gu,ha150,if_neg h0,b8,b15,b22,b32,b101,b111,b125,b128,b134,b143,b155,b158,b160])),trivial⟩
   omega
  have q143:=of_decide_eq_false b143
  refine Bx ?_
  apply k112
  refine Ag rfl rfl ?_
  refine Aa rfl (Ah (v:=(iV ((s:Int)))) h137_9) ?_
  refine Aa rfl (Br (p:=(s:Int)) (q:=1) rfl rfl (z:=(((s + 1):Nat):Int)) (Bo (by first | rfl | omega | (push_cast; rfl)) (by omega) (by omega))) ?_
  refine l_A (iV ((((s + 1):Nat):Int))) rfl rfl ?_
  refine Bj (Arw l120) ?_
  apply Ac
  refine ⟨_,?_,((s + 1)),rfl,rfl,rfl,rfl,h137_1,rfl,(by omega),(Ef p105_1 (by
  simp only [Iz,ha117,b8,b15,b22,b32,b101,b111,b125,b128,b134,b143,if_true]; rw [if_neg (by omega),Fb fun j hj=>p137_1 j (by omega)])),trivial⟩
  omega
 have q111:=of_decide_eq_false b111
 refine Bx ?_
 apply k103
 refine w_q rfl rfl fun K172 k172=>?_
 refine l_A (iV (0)) rfl rfl ?_
 apply Ac
 apply k172
 refine Aj (Arw l2) ?_
 refine Aq ?_
 refine hret _ _ _ ?_
 refine ⟨rfl,rfl,Eq.trans (b:=(iV (0))) rfl ?_⟩
 have hF:Ew m = 0:=by rw [Ew,if_neg (by omega),Fb fun j hj=>p26_1 j (by omega)]
 rw [Ch,Gt q8,Gt q15,Gt hF,Jb,if_neg (by omega),Fb fun j hj=>p105_1 j (by omega)]
end Go.Proofs.YtoefdnbaklajeaaDoor

namespace Go.Proofs.YtoefdnbaklajeaaDoor
open Go
theorem not_mem_of {l:List Int} {n:Int} (h:∀ j,j < l.length→l[j]? ≠ some n):n ∉ l:=fun hm=>by
  obtain ⟨i,hi⟩:=List.getElem?_of_mem hm
  exact h i (List.getElem?_eq_some_iff.1 hi).1 hi
end Go.Proofs.YtoefdnbaklajeaaDoor

namespace Go.Proofs.YtoefdnbaklajeaaDoor
open Go
set_option maxRecDepth 100000 in
theorem c_has {mn:Bool} {X:Frame→List Frame→Ro→Own→Cy→Prop} {ρ:Ro} {σ:Own} {l:List Int} {vl:Value} {n:Int} (rl:Val ρ vl l):CallsH (CX mn X) 33 #[vl,(iV (n))] ρ σ (fun w ρ' σ'=>ρ' = ρ∧σ' = σ∧w = (.bool (decide (n ∈ l)))):=by
 refine Bh (n:=18) (args:=[vl,(iV (n))]) [4] Tryd.func33 rfl rfl rfl rfl fun Q hret hnor=>?_
 refine w_q rfl rfl fun K1 k1=>?_
 refine l_A (.bool (false)) rfl rfl ?_
 apply Ac
 apply k1
 refine Ai fun K2 k2=>?_
 refine w_q rfl rfl fun K3 k3=>?_
 refine l_A (iV (0)) rfl rfl ?_
 apply Ac
 apply k3
 refine Ao ?_
 refine Cc (fun mm ee dd ρ' σ'=>∃ (i:Nat),(l.length - i) = mm∧[] = dd∧ρ = ρ'∧σ = σ'∧ee 0 = vl∧ee 1 = (iV (n))∧ee 5 = (iV ((i:Int)))∧(i ≤ l.length)∧(∀ j,j < i→l[j]? ≠ some n)∧True) (m:=_) ⟨0,rfl,rfl,rfl,rfl,rfl,rfl,rfl,(Nat.zero_le _),(fun j h=>absurd h (Nat.not_lt_zero _)),trivial⟩ ?_
 rintro m4 e4 _ _ _ ⟨i,rfl,rfl,rfl,rfl,h4_0,h4_1,h4_5,p4_0,p4_1,_⟩
 refine Ai fun K5 k5=>?_
 refine w_q rfl rfl fun K6 k6=>?_
 refine Aa rfl (Ah (v:=(iV ((i:Int)))) h4_5) ?_
 refine Aa rfl (Ah (v:=vl) h4_0) ?_
 have g7:=Val.len rl
 refine Aa rfl (Ce (el:=3) Tryd.underlying30 rfl rl) ?_
 refine Aa rfl (Da (p:=(i:Int)) (q:=((l.length:Nat):Int)) rfl rfl) ?_
 apply Ac
 apply k6
 refine As (t:=decide ((i:Int) < ((l.length:Nat):Int))) rfl (fun b8=>?_) (fun b8=>?_)
 ·have q8:=of_decide_eq_true b8
  refine Al ?_
  apply k5
  refine Ai fun K9 k9=>?_
  refine Ao ?_
  refine w_q rfl rfl fun K10 k10=>?_
  refine Aa rfl (Ah (v:=vl) h4_0) ?_
  refine Aa rfl (Ah (v:=(iV ((i:Int)))) h4_5) ?_
  obtain ⟨a12,ha12⟩:=Ed (xs:=l) (i:=i) (by omega)
  refine Ak rfl (Ci i Tryd.underlying30 ty3 rfl rl (q:=(i:Int)) rfl rfl ha12) fun v11 r11=>?_
  have ⟨g13a,g13b⟩:=At.rng r11
  refine Aa rfl (Bc ty3 rfl r11) ?_
  refine Aa rfl (Ah (v:=(iV (n))) h4_1) ?_
  refine Aa rfl (Ek (p:=a12) (q:=n) rfl rfl) ?_
  apply Ac
  apply k10
  refine As (t:=a12 == n) rfl (fun b14=>?_) (fun b14=>?_)
  ·have q14:=Jo b14
   refine w_q rfl rfl fun K15 k15=>?_
   refine l_A (.bool (true)) rfl rfl ?_
   apply Ac
   apply k15
   refine Aq ?_
   refine hret _ _ _ ?_
   refine ⟨rfl,rfl,Eq.trans (b:=(.bool (true))) rfl ?_⟩
   rw [decide_eq_true (List.mem_of_getElem? (i:=i) (by rw [ha12,q14]))]
  have q14:=La b14
  refine Al ?_
  apply k9
  refine Ag rfl rfl ?_
  refine Aa rfl (Ah (v:=(iV ((i:Int)))) h4_5) ?_
  refine Aa rfl (Br (p:=(i:Int)) (q:=1) rfl rfl (z:=(((i + 1):Nat):Int)) (Bo (by first | rfl | omega | (push_cast; rfl)) (by omega) (by omega))) ?_
  refine l_A (iV ((((i + 1):Nat):Int))) rfl rfl ?_
  apply Ac
  refine ⟨_,?_,((i + 1)),rfl,rfl,rfl,rfl,h4_0,h4_1,rfl,(by omega),(Ef p4_1 (fun h=>by rw [ha12] at h; injection h with h1; exact q14 h1)),trivial⟩
  omega
 have q8:=of_decide_eq_false b8
 refine Bx ?_
 apply k2
 refine w_q rfl rfl fun K16 k16=>?_
 refine l_A (.bool (false)) rfl rfl ?_
 apply Ac
 apply k16
 refine Aq ?_
 refine hret _ _ _ ?_
 refine ⟨rfl,rfl,Eq.trans (b:=(.bool (false))) rfl ?_⟩
 rw [decide_eq_false (not_mem_of fun j hj=>p4_1 j (by omega))]
end Go.Proofs.YtoefdnbaklajeaaDoor

namespace Go.Proofs.YtoefdnbaklajeaaDoor
open Go
set_option maxRecDepth 100000 in
theorem c_Vast {mn:Bool} {X:Frame→List Frame→Ro→Own→Cy→Prop} {ρ:Ro} {σ:Own} {m:Market} {vm:Value} (rm:Val ρ vm m):CallsH (CX mn X) 16 #[vm] ρ σ (fun w ρ' σ'=>ρ' = ρ∧σ' = σ∧∃ b,w = .bool b):=by
 refine Bh (n:=101) (args:=[vm]) [2] Tryd.func16 rfl rfl rfl rfl fun Q hret hnor=>?_
 refine w_q rfl rfl fun K1 k1=>?_
 refine Ae rfl (Eb (v:=vm) rfl fun k2=>?_)
 refine Bb (a:=m) rm fun ρ2 l2 r2=>?_
 replace rm:=Asa l2 rm
 refine l_A (.bool (false)) rfl rfl ?_
 apply Ac
 apply k1
 refine Ai fun K3 k3=>?_
 refine w_q rfl rfl fun K4 k4=>?_
 refine Ak rfl (Ay Market.f_houses Tryd.underlying26 rfl rfl Hu (by decide) rfl r2) fun v5 r5=>?_
 refine Ak rfl (Ax Hu rfl r5) fun v6 r6=>?_
 have g7:=Val.len r6
 refine Aa rfl (Ce (el:=9) Tryd.underlying22 rfl r6) ?_
 refine Aa rfl (Gk (p:=((m.houses.length:Nat):Int)) (q:=40) rfl rfl) ?_
 refine l_M (.bool (decide (((m.houses.length:Nat):Int) > 40))) rfl rfl ?_
 refine Cn (decide (((m.houses.length:Nat):Int) > 40)) (fun b8=>?_) (fun b8=>?_)
 ·have q8:=of_decide_eq_true b8
  refine Ap (Bl rfl rfl rfl b8) ?_
  refine Ap (Bl rfl rfl rfl b8) ?_
  refine Ap (Bl rfl rfl rfl b8) ?_
  refine Ap (Bl rfl rfl rfl b8) ?_
  refine Aa rfl (Bt rfl b8 (v:=(.bool (true))) rfl) ?_
  refine l_M (.bool (true)) rfl rfl ?_
  refine Ap (Bl rfl rfl rfl rfl) ?_
  refine Ap (Bl rfl rfl rfl rfl) ?_
  refine Ap (Bl rfl rfl rfl rfl) ?_
  refine Ap (Bl rfl rfl rfl rfl) ?_
  refine Aa rfl (Bt rfl rfl (v:=(.bool (true))) rfl) ?_
  refine l_M (.bool (true)) rfl rfl ?_
  refine Ap (Bl rfl rfl rfl rfl) ?_
  refine Ap (Bl rfl rfl rfl rfl) ?_
  refine Ap (Bl rfl rfl rfl rfl) ?_
  refine Ap (Bl rfl rfl rfl rfl) ?_
  refine Aa rfl (Bt rfl rfl (v:=(.bool (true))) rfl) ?_
  apply Ac
  apply k4
  refine Co rfl rfl ?_
  refine w_q rfl rfl fun K9 k9=>?_
  refine l_A (.bool (true)) rfl rfl ?_
  apply Ac
  apply k9
  refine Aj (Arw l2) ?_
  refine Aq ?_
  refine hret _ _ _ ?_
  exact ⟨rfl,rfl,_,rfl⟩
 have q8:=of_decide_eq_false b8
 refine Ak (Ar rfl rfl rfl b8) (Ay Market.f_marks Tryd.underlying26 rfl rfl Hu (by decide) rfl r2) fun v10 r10=>?_
 refine Ak (Ar rfl rfl rfl b8) (Ax Hu rfl r10) fun v11 r11=>?_
 have g12:=Val.len r11
 refine Aa (Ar rfl rfl rfl b8) (Ce (el:=9) Tryd.underlying22 rfl r11) ?_
 refine Aa (Ar rfl rfl rfl b8) (Gk (p:=((m.marks.length:Nat):Int)) (q:=40) rfl rfl) ?_
 refine Aa rfl (Bm rfl b8 (v:=(.bool (decide (((m.marks.length:Nat):Int) > 40)))) rfl) ?_
 refine l_M (.bool (decide (((m.marks.length:Nat):Int) > 40))) rfl rfl ?_
 refine Cn (decide (((m.marks.length:Nat):Int) > 40)) (fun b13=>?_) (fun b13=>?_)
 ·have q13:=of_decide_eq_true b13
  refine Ap (Bl rfl rfl rfl b13) ?_
  refine Ap (Bl rfl rfl rfl b13) ?_
  refine Ap (Bl rfl rfl rfl b13) ?_
  refine Ap (Bl rfl rfl rfl b13) ?_
  refine Aa rfl (Bt rfl b13 (v:=(.bool (true))) rfl) ?_
  refine l_M (.bool (true)) rfl rfl ?_
  refine Ap (Bl rfl rfl rfl rfl) ?_
  refine Ap (Bl rfl rfl rfl rfl) ?_
  refine Ap (Bl rfl rfl rfl rfl) ?_
  refine Ap (Bl rfl rfl rfl rfl) ?_
  refine Aa rfl (Bt rfl rfl (v:=(.bool (true))) rfl) ?_
  apply Ac
  apply k4
  refine Co rfl rfl ?_
  refine w_q rfl rfl fun K14 k14=>?_
  refine l_A (.bool (true)) rfl rfl ?_
  apply Ac
  apply k14
  refine Aj (Arw l2) ?_
  refine Aq ?_
  refine hret _ _ _ ?_
  exact ⟨rfl,rfl,_,rfl⟩
 have q13:=of_decide_eq_false b13
 refine Ak (Ar rfl rfl rfl b13) (Ay Market.f_fields Tryd.underlying26 rfl rfl Se (by decide) rfl r2) fun v15 r15=>?_
 refine Ak (Ar rfl rfl rfl b13) (Ax Se rfl r15) fun v16 r16=>?_
 have g17:=Val.len r16
 refine Aa (Ar rfl rfl rfl b13) (Ce (el:=67) Tryd.underlying23 rfl r16) ?_
 refine Aa (Ar rfl rfl rfl b13) (Gk (p:=((m.fields.length:Nat):Int)) (q:=40) rfl rfl) ?_
 refine Aa rfl (Bm rfl b13 (v:=(.bool (decide (((m.fields.length:Nat):Int) > 40)))) rfl) ?_
 refine l_M (.bool (decide (((m.fields.length:Nat):Int) > 40))) rfl rfl ?_
 refine Cn (decide (((m.fields.length:Nat):Int) > 40)) (fun b18=>?_) (fun b18=>?_)
 ·have q18:=of_decide_eq_true b18
  refine Ap (Bl rfl rfl rfl b18) ?_
  refine Ap (Bl rfl rfl rfl b18) ?_
  refine Ap (Bl rfl rfl rfl b18) ?_
  refine Ap (Bl rfl rfl rfl b18) ?_
  refine Aa rfl (Bt rfl b18 (v:=(.bool (true))) rfl) ?_
  apply Ac
  apply k4
  refine Co rfl rfl ?_
  refine w_q rfl rfl fun K19 k19=>?_
  refine l_A (.bool (true)) rfl rfl ?_
  apply Ac
  apply k19
  refine Aj (Arw l2) ?_
  refine Aq ?_
  refine hret _ _ _ ?_
  exact ⟨rfl,rfl,_,rfl⟩
 have q18:=of_decide_eq_false b18
 refine Ak (Ar rfl rfl rfl b18) (Ay Market.f_sales Tryd.underlying26 rfl rfl Pq (by decide) rfl r2) fun v20 r20=>?_
 refine Ak (Ar rfl rfl rfl b18) (Ax Pq rfl r20) fun v21 r21=>?_
 have g22:=Val.len r21
 refine Aa (Ar rfl rfl rfl b18) (Ce (el:=59) Tryd.underlying24 rfl r21) ?_
 refine Aa (Ar rfl rfl rfl b18) (Gk (p:=((m.sales.length:Nat):Int)) (q:=40) rfl rfl) ?_
 refine Aa rfl (Bm rfl b18 (v:=(.bool (decide (((m.sales.length:Nat):Int) > 40)))) rfl) ?_
 apply Ac
 apply k4
 refine As (t:=decide (((m.sales.length:Nat):Int) > 40)) rfl (fun b23=>?_) (fun b23=>?_)
 ·have q23:=of_decide_eq_true b23
  refine w_q rfl rfl fun K24 k24=>?_
  refine l_A (.bool (true)) rfl rfl ?_
  apply Ac
  apply k24
  refine Aj (Arw l2) ?_
  refine Aq ?_
  refine hret _ _ _ ?_
  exact ⟨rfl,rfl,_,rfl⟩
 have q23:=of_decide_eq_false b23
 refine Al ?_
 apply k3
 refine w_q rfl rfl fun K25 k25=>?_
 refine l_A (iV (0)) rfl rfl ?_
 apply Ac
 apply k25
 refine Ai fun K26 k26=>?_
 refine w_q rfl rfl fun K27 k27=>?_
 refine l_A (iV (0)) rfl rfl ?_
 apply Ac
 apply k27
 refine Ao ?_
 refine Cc (fun mm ee dd ρ' σ'=>∃ (i:Nat) (n:Int),(m.houses.length - i) = mm∧[] = dd∧ρ2 = ρ'∧σ = σ'∧ee 1 = (.pointer (some ⟨k2,0,none⟩))∧ee 3 = (iV (n))∧ee 4 = (iV ((i:Int)))∧(i ≤ m.houses.length)∧True) (m:=_) ⟨0,0,rfl,rfl,rfl,rfl,rfl,rfl,rfl,(Nat.zero_le _),trivial⟩ ?_
 rintro m28 e28 _ _ _ ⟨i,n,rfl,rfl,rfl,rfl,h28_1,h28_3,h28_4,p28_0,_⟩
 refine Ai fun K29 k29=>?_
 refine w_q rfl rfl fun K30 k30=>?_
 refine Aa rfl (Ah (v:=(iV ((i:Int)))) h28_4) ?_
 refine Ak rfl (Ay Market.f_houses Tryd.underlying26 rfl rfl Hu (by decide) h28_1 r2) fun v31 r31=>?_
 refine Ak rfl (Ax Hu rfl r31) fun v32 r32=>?_
 have g33:=Val.len r32
 refine Aa rfl (Ce (el:=9) Tryd.underlying22 rfl r32) ?_
 refine Aa rfl (Da (p:=(i:Int)) (q:=((m.houses.length:Nat):Int)) rfl rfl) ?_
 apply Ac
 apply k30
 refine As (t:=decide ((i:Int) < ((m.houses.length:Nat):Int))) rfl (fun b34=>?_) (fun b34=>?_)
 ·have q34:=of_decide_eq_true b34
  refine Al ?_
  apply k29
  refine Ai fun K35 k35=>?_
  refine Ao ?_
  refine Ag rfl rfl ?_
  refine Aa rfl (Ah (v:=(iV (n))) h28_3) ?_
  refine Ak rfl (Ay Market.f_houses Tryd.underlying26 rfl rfl Hu (by decide) h28_1 r2) fun v36 r36=>?_
  refine Ak rfl (Ax Hu rfl r36) fun v37 r37=>?_
  refine Aa rfl (Ah (v:=(iV ((i:Int)))) h28_4) ?_
  obtain ⟨a39,ha39⟩:=Ed (xs:=m.houses) (i:=i) (by omega)
  refine Ak rfl (Ci i Tryd.underlying22 ty9 rfl r37 (q:=(i:Int)) rfl rfl ha39) fun v38 r38=>?_
  have g40:=At.slen r38
  refine Aa rfl (Oz ty9 rfl r38) ?_
  refine Aa rfl (Afb Tryd.underlying9 (s:=a39) rfl) ?_
  refine Aa rfl (Br (p:=n) (q:=((a39.size:Nat):Int)) rfl rfl (z:=(IntKind.i64.wrap (n + ((a39.size:Nat):Int)))) rfl) ?_
  refine l_A (iV ((IntKind.i64.wrap (n + ((a39.size:Nat):Int))))) rfl rfl ?_
  apply Ac
  apply k35
  refine Ag rfl rfl ?_
  refine Aa rfl (Ah (v:=(iV ((i:Int)))) h28_4) ?_
  refine Aa rfl (Br (p:=(i:Int)) (q:=1) rfl rfl (z:=(((i + 1):Nat):Int)) (Bo (by first | rfl | omega | (push_cast; rfl)) (by omega) (by omega))) ?_
  refine l_A (iV ((((i + 1):Nat):Int))) rfl rfl ?_
  apply Ac
  refine ⟨_,?_,((i + 1)),((IntKind.i64.wrap (n + ((a39.size:Nat):Int)))),rfl,rfl,rfl,rfl,h28_1,rfl,rfl,(by omega),trivial⟩
  omega
 have q34:=of_decide_eq_false b34
 refine Bx ?_
 apply k26
 refine Ai fun K41 k41=>?_
 refine w_q rfl rfl fun K42 k42=>?_
 refine l_A (iV (0)) rfl rfl ?_
 apply Ac
 apply k42
 refine Ao ?_
 refine Cc (fun mm ee dd ρ' σ'=>∃ (i:Nat) (n:Int),(m.marks.length - i) = mm∧[] = dd∧ρ2 = ρ'∧σ = σ'∧ee 1 = (.pointer (some ⟨k2,0,none⟩))∧ee 3 = (iV (n))∧ee 5 = (iV ((i:Int)))∧(i ≤ m.marks.length)∧True) (m:=_) ⟨0,n,rfl,rfl,rfl,rfl,h28_1,h28_3,rfl,(Nat.zero_le _),trivial⟩ ?_
 rintro m43 e43 _ _ _ ⟨i,n,rfl,rfl,rfl,rfl,h43_1,h43_3,h43_5,p43_0,_⟩
 refine Ai fun K44 k44=>?_
 refine w_q rfl rfl fun K45 k45=>?_
 refine Aa rfl (Ah (v:=(iV ((i:Int)))) h43_5) ?_
 refine Ak rfl (Ay Market.f_marks Tryd.underlying26 rfl rfl Hu (by decide) h43_1 r2) fun v46 r46=>?_
 refine Ak rfl (Ax Hu rfl r46) fun v47 r47=>?_
 have g48:=Val.len r47
 refine Aa rfl (Ce (el:=9) Tryd.underlying22 rfl r47) ?_
 refine Aa rfl (Da (p:=(i:Int)) (q:=((m.marks.length:Nat):Int)) rfl rfl) ?_
 apply Ac
 apply k45
 refine As (t:=decide ((i:Int) < ((m.marks.length:Nat):Int))) rfl (fun b49=>?_) (fun b49=>?_)
 ·have q49:=of_decide_eq_true b49
  refine Al ?_
  apply k44
  refine Ai fun K50 k50=>?_
  refine Ao ?_
  refine Ag rfl rfl ?_
  refine Aa rfl (Ah (v:=(iV (n))) h43_3) ?_
  refine Ak rfl (Ay Market.f_marks Tryd.underlying26 rfl rfl Hu (by decide) h43_1 r2) fun v51 r51=>?_
  refine Ak rfl (Ax Hu rfl r51) fun v52 r52=>?_
  refine Aa rfl (Ah (v:=(iV ((i:Int)))) h43_5) ?_
  obtain ⟨a54,ha54⟩:=Ed (xs:=m.marks) (i:=i) (by omega)
  refine Ak rfl (Ci i Tryd.underlying22 ty9 rfl r52 (q:=(i:Int)) rfl rfl ha54) fun v53 r53=>?_
  have g55:=At.slen r53
  refine Aa rfl (Oz ty9 rfl r53) ?_
  refine Aa rfl (Afb Tryd.underlying9 (s:=a54) rfl) ?_
  refine Aa rfl (Br (p:=n) (q:=((a54.size:Nat):Int)) rfl rfl (z:=(IntKind.i64.wrap (n + ((a54.size:Nat):Int)))) rfl) ?_
  refine l_A (iV ((IntKind.i64.wrap (n + ((a54.size:Nat):Int))))) rfl rfl ?_
  apply Ac
  apply k50
  refine Ag rfl rfl ?_
  refine Aa rfl (Ah (v:=(iV ((i:Int)))) h43_5) ?_
  refine Aa rfl (Br (p:=(i:Int)) (q:=1) rfl rfl (z:=(((i + 1):Nat):Int)) (Bo (by first | rfl | omega | (push_cast; rfl)) (by omega) (by omega))) ?_
  refine l_A (iV ((((i + 1):Nat):Int))) rfl rfl ?_
  apply Ac
  refine ⟨_,?_,((i + 1)),((IntKind.i64.wrap (n + ((a54.size:Nat):Int)))),rfl,rfl,rfl,rfl,h43_1,rfl,rfl,(by omega),trivial⟩
  omega
 have q49:=of_decide_eq_false b49
 refine Bx ?_
 apply k41
 refine Ai fun K56 k56=>?_
 refine w_q rfl rfl fun K57 k57=>?_
 refine l_A (iV (0)) rfl rfl ?_
 apply Ac
 apply k57
 refine Ao ?_
 refine Cc (fun mm ee dd ρ' σ'=>∃ (i:Nat) (n:Int),(m.fields.length - i) = mm∧[] = dd∧ρ2 = ρ'∧σ = σ'∧ee 1 = (.pointer (some ⟨k2,0,none⟩))∧ee 3 = (iV (n))∧ee 6 = (iV ((i:Int)))∧(i ≤ m.fields.length)∧True) (m:=_) ⟨0,n,rfl,rfl,rfl,rfl,h43_1,h43_3,rfl,(Nat.zero_le _),trivial⟩ ?_
 rintro m58 e58 _ _ _ ⟨i,n,rfl,rfl,rfl,rfl,h58_1,h58_3,h58_6,p58_0,_⟩
 refine Ai fun K59 k59=>?_
 refine w_q rfl rfl fun K60 k60=>?_
 refine Aa rfl (Ah (v:=(iV ((i:Int)))) h58_6) ?_
 refine Ak rfl (Ay Market.f_fields Tryd.underlying26 rfl rfl Se (by decide) h58_1 r2) fun v61 r61=>?_
 refine Ak rfl (Ax Se rfl r61) fun v62 r62=>?_
 have g63:=Val.len r62
 refine Aa rfl (Ce (el:=67) Tryd.underlying23 rfl r62) ?_
 refine Aa rfl (Da (p:=(i:Int)) (q:=((m.fields.length:Nat):Int)) rfl rfl) ?_
 apply Ac
 apply k60
 refine As (t:=decide ((i:Int) < ((m.fields.length:Nat):Int))) rfl (fun b64=>?_) (fun b64=>?_)
 ·have q64:=of_decide_eq_true b64
  refine Al ?_
  apply k59
  refine Ai fun K65 k65=>?_
  refine Ao ?_
  refine Ai fun K66 k66=>?_
  refine w_q rfl rfl fun K67 k67=>?_
  refine Ak rfl (Ay Market.f_fields Tryd.underlying26 rfl rfl Se (by decide) h58_1 r2) fun v68 r68=>?_
  refine Ak rfl (Ax Se rfl r68) fun v69 r69=>?_
  refine Aa rfl (Ah (v:=(iV ((i:Int)))) h58_6) ?_
  obtain ⟨a71,ha71⟩:=Ed (xs:=m.fields) (i:=i) (by omega)
  refine Ak rfl (Ci i Tryd.underlying23 Ln rfl r69 (q:=(i:Int)) rfl rfl ha71) fun v70 r70=>?_
  refine Ak rfl (Ay FField.f_marks Tryd.underlying67 rfl rfl Ty (by decide) rfl r70) fun v72 r72=>?_
  refine Ak rfl (Ax Ty rfl r72) fun v73 r73=>?_
  have g74:=Val.len r73
  refine Aa rfl (Ce (el:=65) Tryd.underlying27 rfl r73) ?_
  refine Aa rfl (Gk (p:=((a71.marks.length:Nat):Int)) (q:=40) rfl rfl) ?_
  apply Ac
  apply k67
  refine As (t:=decide (((a71.marks.length:Nat):Int) > 40)) rfl (fun b75=>?_) (fun b75=>?_)
  ·have q75:=of_decide_eq_true b75
   refine w_q rfl rfl fun K76 k76=>?_
   refine l_A (.bool (true)) rfl rfl ?_
   apply Ac
   apply k76
   refine Aj (Arw l2) ?_
   refine Aq ?_
   refine hret _ _ _ ?_
   exact ⟨rfl,rfl,_,rfl⟩
  have q75:=of_decide_eq_false b75
  refine Al ?_
  apply k66
  refine Ag rfl rfl ?_
  refine Aa rfl (Ah (v:=(iV (n))) h58_3) ?_
  refine Ak rfl (Ay Market.f_fields Tryd.underlying26 rfl rfl Se (by decide) h58_1 r2) fun v77 r77=>?_
  refine Ak rfl (Ax Se rfl r77) fun v78 r78=>?_
  refine Aa rfl (Ah (v:=(iV ((i:Int)))) h58_6) ?_
  refine Ak rfl (Ci i Tryd.underlying23 Ln rfl r78 (q:=(i:Int)) rfl rfl ha71) fun v79 r79=>?_
  refine Ak rfl (Ay FField.f_name Tryd.underlying67 rfl rfl ty9 (by decide) rfl r79) fun v80 r80=>?_
  have g81:=At.slen r80
  refine Aa rfl (Oz ty9 rfl r80) ?_
  refine Aa rfl (Afb Tryd.underlying9 (s:=a71.name) rfl) ?_
  refine Aa rfl (Br (p:=n) (q:=((a71.name.size:Nat):Int)) rfl rfl (z:=(IntKind.i64.wrap (n + ((a71.name.size:Nat):Int)))) rfl) ?_
  refine l_A (iV ((IntKind.i64.wrap (n + ((a71.name.size:Nat):Int))))) rfl rfl ?_
  apply Ac
  apply k65
  refine Ag rfl rfl ?_
  refine Aa rfl (Ah (v:=(iV ((i:Int)))) h58_6) ?_
  refine Aa rfl (Br (p:=(i:Int)) (q:=1) rfl rfl (z:=(((i + 1):Nat):Int)) (Bo (by first | rfl | omega | (push_cast; rfl)) (by omega) (by omega))) ?_
  refine l_A (iV ((((i + 1):Nat):Int))) rfl rfl ?_
  apply Ac
  refine ⟨_,?_,((i + 1)),((IntKind.i64.wrap (n + ((a71.name.size:Nat):Int)))),rfl,rfl,rfl,rfl,h58_1,rfl,rfl,(by omega),trivial⟩
  omega
 have q64:=of_decide_eq_false b64
 refine Bx ?_
 apply k56
 refine Ai fun K82 k82=>?_
 refine w_q rfl rfl fun K83 k83=>?_
 refine l_A (iV (0)) rfl rfl ?_
 apply Ac
 apply k83
 refine Ao ?_
 refine Cc (fun mm ee dd ρ' σ'=>∃ (i:Nat),(m.sales.length - i) = mm∧[] = dd∧ρ2 = ρ'∧σ = σ'∧ee 1 = (.pointer (some ⟨k2,0,none⟩))∧ee 3 = (iV (n))∧ee 7 = (iV ((i:Int)))∧(i ≤ m.sales.length)∧True) (m:=_) ⟨0,rfl,rfl,rfl,rfl,h58_1,h58_3,rfl,(Nat.zero_le _),trivial⟩ ?_
 rintro m84 e84 _ _ _ ⟨i,rfl,rfl,rfl,rfl,h84_1,h84_3,h84_7,p84_0,_⟩
 refine Ai fun K85 k85=>?_
 refine w_q rfl rfl fun K86 k86=>?_
 refine Aa rfl (Ah (v:=(iV ((i:Int)))) h84_7) ?_
 refine Ak rfl (Ay Market.f_sales Tryd.underlying26 rfl rfl Pq (by decide) h84_1 r2) fun v87 r87=>?_
 refine Ak rfl (Ax Pq rfl r87) fun v88 r88=>?_
 have g89:=Val.len r88
 refine Aa rfl (Ce (el:=59) Tryd.underlying24 rfl r88) ?_
 refine Aa rfl (Da (p:=(i:Int)) (q:=((m.sales.length:Nat):Int)) rfl rfl) ?_
 apply Ac
 apply k86
 refine As (t:=decide ((i:Int) < ((m.sales.length:Nat):Int))) rfl (fun b90=>?_) (fun b90=>?_)
 ·have q90:=of_decide_eq_true b90
  refine Al ?_
  apply k85
  refine Ai fun K91 k91=>?_
  refine Ao ?_
  refine w_q rfl rfl fun K92 k92=>?_
  refine Ak rfl (Ay Market.f_sales Tryd.underlying26 rfl rfl Pq (by decide) h84_1 r2) fun v93 r93=>?_
  refine Ak rfl (Ax Pq rfl r93) fun v94 r94=>?_
  refine Aa rfl (Ah (v:=(iV ((i:Int)))) h84_7) ?_
  obtain ⟨a96,ha96⟩:=Ed (xs:=m.sales) (i:=i) (by omega)
  refine Ak rfl (Ci i Tryd.underlying24 Su rfl r94 (q:=(i:Int)) rfl rfl ha96) fun v95 r95=>?_
  refine Ak rfl (Ay Sale.f_sellers Tryd.underlying59 rfl rfl Vg (by decide) rfl r95) fun v97 r97=>?_
  refine Ak rfl (Ax Vg rfl r97) fun v98 r98=>?_
  have g99:=Val.len r98
  refine Aa rfl (Ce (el:=3) Tryd.underlying30 rfl r98) ?_
  refine Aa rfl (Gk (p:=((a96.sellers.length:Nat):Int)) (q:=40) rfl rfl) ?_
  apply Ac
  apply k92
  refine As (t:=decide (((a96.sellers.length:Nat):Int) > 40)) rfl (fun b100=>?_) (fun b100=>?_)
  ·have q100:=of_decide_eq_true b100
   refine w_q rfl rfl fun K101 k101=>?_
   refine l_A (.bool (true)) rfl rfl ?_
   apply Ac
   apply k101
   refine Aj (Arw l2) ?_
   refine Aq ?_
   refine hret _ _ _ ?_
   exact ⟨rfl,rfl,_,rfl⟩
  have q100:=of_decide_eq_false b100
  refine Al ?_
  apply k91
  refine Ag rfl rfl ?_
  refine Aa rfl (Ah (v:=(iV ((i:Int)))) h84_7) ?_
  refine Aa rfl (Br (p:=(i:Int)) (q:=1) rfl rfl (z:=(((i + 1):Nat):Int)) (Bo (by first | rfl | omega | (push_cast; rfl)) (by omega) (by omega))) ?_
  refine l_A (iV ((((i + 1):Nat):Int))) rfl rfl ?_
  apply Ac
  refine ⟨_,?_,((i + 1)),rfl,rfl,rfl,rfl,h84_1,h84_3,rfl,(by omega),trivial⟩
  omega
 have q90:=of_decide_eq_false b90
 refine Bx ?_
 apply k82
 refine w_q rfl rfl fun K102 k102=>?_
 refine Aa rfl (Ah (v:=(iV (n))) h84_3) ?_
 refine Aa rfl (Gk (p:=n) (q:=1000) rfl rfl) ?_
 refine l_A (.bool (decide (n > 1000))) rfl rfl ?_
 apply Ac
 apply k102
 refine Aj (Arw l2) ?_
 refine Aq ?_
 refine hret _ _ _ ?_
 exact ⟨rfl,rfl,_,rfl⟩
end Go.Proofs.YtoefdnbaklajeaaDoor

namespace Go.Proofs.YtoefdnbaklajeaaDoor
open Go
theorem sooner_total (a b:List Nat):Cr a b∨a = b∨Cr b a:=by
  rcases Nat.lt_trichotomy a.length b.length with h | h | h
  · exact .inl (.inl h)
  · by_cases h1:a < b
    · exact .inl (.inr ⟨h,h1⟩)
    · by_cases h2:b < a
      · exact .inr (.inr (.inr ⟨h.symm,h2⟩))
      · exact .inr (.inl (List.le_antisymm (List.not_lt.1 h2) (List.not_lt.1 h1)))
  · exact .inr (.inr (.inl h))
theorem better_total {f:List Nat→Int} (a b:List Nat):Bv f a b∨a = b∨Bv f b a:=by
  rcases Int.lt_trichotomy (f b) (f a) with h | h | h
  · exact .inl (.inl h)
  · rcases sooner_total a b with h2 | h2 | h2
    · exact .inl (.inr ⟨h.symm,h2⟩)
    · exact .inr (.inl h2)
    · exact .inr (.inr (.inr ⟨h,h2⟩))
  · exact .inr (.inr (.inl h))
theorem IsBest.congr {f:List Nat→Int} {L L':List Nat→Prop} {r:List Nat} (h:IsBest f L r) (hl:∀ x,L x↔L' x):IsBest f L' r:=⟨(hl r).1 h.1,fun x hx=>h.2 x ((hl x).2 hx)⟩
theorem best_is {f:List Nat→Int} (xs:List (List Nat)) (r:List Nat):IsBest f (fun x=>x ∈ r :: xs) (Sv f xs r):=by
  induction xs generalizing r with
  | nil=>exact ⟨by simp [Sv],fun x hx=>.inl (by simpa [Sv] using hx)⟩
  | cons y xs ih =>
    have e1:Sv f (y :: xs) r = Sv f xs (if Bv f y r then y else r):=rfl
    rw [e1]
    obtain ⟨h1,h2⟩:=ih (if Bv f y r then y else r)
    refine ⟨?_,fun x hx=>?_⟩
    · rcases List.mem_cons.1 h1 with e | e
      · rw [e]; split <;> simp
      · exact List.mem_cons_of_mem _ (List.mem_cons_of_mem _ e)
    · have hle:∀ z,(z = y∨z = r)→z = Sv f xs (if Bv f y r then y else r)∨Bv f (Sv f xs (if Bv f y r then y else r)) z:=fun z hz=>by
        have h3:(if Bv f y r then y else r) = z∨Bv f (if Bv f y r then y else r) z:=by
          split
          · rename_i hb
            rcases hz with rfl | rfl
            · exact .inl rfl
            · exact .inr hb
          · rename_i hb
            rcases hz with rfl | rfl
            · rcases better_total (f:=f) z r with h | h | h
              · exact absurd h hb
              · exact .inl h.symm
              · exact .inr h
            · exact .inl rfl
        rcases h3 with h3 | h3
        · rw [← h3]; exact h2 _ (List.mem_cons_self ..)
        · rcases h2 _ (List.mem_cons_self ..) with h4 | h4
          · rw [← h4]; exact .inr h3
          · exact .inr (Wx h4 h3)
      rcases List.mem_cons.1 hx with rfl | hx
      · exact hle _ (.inr rfl)
      · rcases List.mem_cons.1 hx with rfl | hx
        · exact hle _ (.inl rfl)
        · exact h2 x (List.mem_cons_of_mem _ hx)
/-- Ascending lists of numbers from one on,below another one. -/
def asc (f b:Nat):List Nat→Prop
  | []=>True
  | i :: l=>f ≤ i∧i < b∧asc (i + 1) b l
/-- The lists that bits tell. -/
theorem asc_mono {l:List Nat} {f f' b:Nat} (h:asc f b l) (hf:f' ≤ f):asc f' b l:=by
  cases l with
  | nil=>trivial
  | cons i l=>exact ⟨Nat.le_trans hf h.1,h.2⟩
theorem asc_filter (p:Nat→Bool):∀ (n f:Nat),asc f (f + n) ((List.range' f n).filter p)
  | 0,f=>trivial
  | n + 1,f=>by
    rw [List.range'_succ,List.filter_cons]
    have ih:=asc_filter p n (f + 1)
    rw [show f + 1 + n = f + (n + 1) by omega] at ih
    split
    · exact ⟨Nat.le_refl _,by omega,ih⟩
    · exact asc_mono ih (by omega)
theorem asc_mem {l:List Nat}:∀ {f b:Nat},asc f b l→∀ x ∈ l,f ≤ x∧x < b:=by
  induction l with
  | nil=>intro f b _ x hx; cases hx
  | cons i l ih =>
    intro f b ⟨h1,h2,h3⟩ x hx
    rcases List.mem_cons.1 hx with rfl | hx
    · exact ⟨h1,h2⟩
    · have:=ih h3 x hx; omega
/-- An ascending list is what its own members pick out. -/
theorem filter_asc:∀ (n f:Nat) (l:List Nat),asc f (f + n) l→(List.range' f n).filter (fun x=>l.contains x) = l
  | 0,f,l,h=>by
    cases l with
    | nil=>rfl
    | cons i l=>exact absurd h.2.1 (by have:=h.1; omega)
  | n + 1,f,l,h=>by
    rw [List.range'_succ]
    cases l with
    | nil=>simp
    | cons i l =>
      obtain ⟨h1,h2,h3⟩:=h
      rw [List.filter_cons]
      by_cases e:i = f
      · subst e
        rw [if_pos (by simp)]
        congr 1
        have ih:=filter_asc n (i + 1) l (by rw [show i + 1 + n = i + (n + 1) by omega]; exact h3)
        rw [← ih]
        apply List.filter_congr
        intro x hx
        have hx':=List.mem_range'_1.1 hx
        have:x ≠ i:=by omega
        rw [ih]
        simp [this]
      · rw [if_neg (by
          simp only [List.contains_eq_mem,decide_eq_true_eq]
          intro hm
          rcases List.mem_cons.1 hm with rfl | hm
          · exact e rfl
          · have:=asc_mem h3 f hm; omega)]
        exact filter_asc n (f + 1) (i :: l) (by rw [show f + 1 + n = f + (n + 1) by omega]; exact ⟨by omega,h2,h3⟩)
theorem mem_setLists {n:Nat} {l:List Nat}:l ∈ Yq n↔asc 0 n l:=by
  unfold Yq
  rw [List.mem_map]
  constructor
  · rintro ⟨s,_,rfl⟩
    have:=asc_filter (Gw s) n 0
    rw [Nat.zero_add,← List.range_eq_range'] at this
    exact this
  · intro h
    refine ⟨Bf l,List.mem_range.2 (Sn fun a ha=>(asc_mem h a ha).2),?_⟩
    have h2:=filter_asc n 0 l (by rw [Nat.zero_add]; exact h)
    rw [← List.range_eq_range'] at h2
    rw [← h2]
    congr 1
    funext x
    rw [h2,Pz,Nx]
theorem bestL_is (m:Market):IsBest (Bq m) (asc 0 m.sales.length) (Adz m) :=
  (best_is (f:=Bq m) (Yq m.sales.length) []).congr fun x=>by
    rw [List.mem_cons,mem_setLists]
    constructor
    · rintro (rfl | h)
      · trivial
      · exact h
    · exact .inr
end Go.Proofs.YtoefdnbaklajeaaDoor

namespace Go.Proofs.YtoefdnbaklajeaaDoor
open Go
theorem pick_sub {m:Market}:∀ {l:List Nat} {f:Nat},asc f m.sales.length l→(Iv m l).Sublist (m.sales.drop f)
  | [],f,_=>by simp [Iv]
  | i :: l,f,⟨h1,h2,h3⟩=>by
    have ih:=pick_sub h3
    have e1:Iv m (i :: l) = m.sales[i] :: Iv m l:=by
      unfold Iv; rw [List.filterMap_cons,List.getElem?_eq_getElem h2]
    rw [e1]
    have h4:(m.sales[i] :: Iv m l).Sublist (m.sales.drop i):=by
      rw [List.drop_eq_getElem_cons h2]
      exact ih.cons_cons _
    refine h4.trans ?_
    rw [show i = f + (i - f) by omega,← List.drop_drop]
    exact List.drop_sublist _ _
theorem sub_pick {α:Type} {ss l:List α} (h:ss.Sublist l):∀ f (L:List α),L.drop f = l→∃ is,asc f L.length is∧is.filterMap (L[·]?) = ss:=by
  induction h with
  | slnil=>intro f L hL; exact ⟨[],trivial,rfl⟩
  | @cons l1 l2 a h ih =>
    intro f L hL
    have hlt:f < L.length:=by
      rcases Nat.lt_or_ge f L.length with h' | h'
      · exact h'
      · rw [List.drop_eq_nil_of_le h'] at hL; cases hL
    rw [List.drop_eq_getElem_cons hlt] at hL
    injection hL with _ hL
    obtain ⟨is,h1,h2⟩:=ih (f + 1) L hL
    exact ⟨is,asc_mono h1 (by omega),h2⟩
  | @cons_cons l1 l2 a h ih =>
    intro f L hL
    have hlt:f < L.length:=by
      rcases Nat.lt_or_ge f L.length with h' | h'
      · exact h'
      · rw [List.drop_eq_nil_of_le h'] at hL; cases hL
    rw [List.drop_eq_getElem_cons hlt] at hL
    injection hL with ha hL
    obtain ⟨is,h1,h2⟩:=ih (f + 1) L hL
    refine ⟨f :: is,⟨Nat.le_refl _,hlt,h1⟩,?_⟩
    rw [List.filterMap_cons,List.getElem?_eq_getElem hlt,ha,h2]
/-- No set of sales proves more than the best one,which proves something or nothing. -/
theorem exc_le {m:Market} {ss:List Sale} (hs:ss.Sublist m.sales):Tf m ss ≤ Bq m (Adz m):=by
  obtain ⟨is,h1,h2⟩:=sub_pick hs 0 m.sales rfl
  have e1:Tf m ss = Bq m is:=by unfold Bq Iv; rw [h2]
  rw [e1]
  rcases (bestL_is m).2 is h1 with h | h | h
  · rw [h]; exact Int.le_refl _
  · omega
  · omega
theorem exc_at {m:Market}:∃ ss,ss.Sublist m.sales∧Bq m (Adz m) = Tf m ss:=⟨Iv m (Adz m),by have:=pick_sub (bestL_is m).1; simpa using this,rfl⟩
end Go.Proofs.YtoefdnbaklajeaaDoor

namespace Go.Proofs.YtoefdnbaklajeaaDoor
open Go
theorem noRecv_obj {σ:Own} {k:Nat} {o:Obj} (h:Js σ):Js ((k,Res.obj o) :: σ):=fun c vs hm=>by
  rcases List.mem_cons.1 hm with e | hm
  · injection e with _ e; cases e
  · exact h c vs hm
end Go.Proofs.YtoefdnbaklajeaaDoor

namespace Go.Proofs.YtoefdnbaklajeaaDoor
open Go Go.WideShapes Go.ChangeShapes Go.RowKit Go.Conc
/-- What the first goroutine may rely on besides: what it owns is newer than the call's world; what it has frozen is its own again while nobody else is there. -/
def mainY (P:Program) (W0:World):Frame→List Frame→Ro→Own→Cy→Prop:=fun fr cs ρ σ K =>
  Acu P fr cs ρ σ K ∨
  (∃ (gr:Own) (ρ':Ro),Js σ∧(∀ p ∈ gr,W0.heap.size ≤ p.1∧∃ o,p.2 = Res.obj o∧ρ p.1 = some o)∧(keys gr).Nodup∧Ro.le ρ' ρ∧(∀ p ∈ gr,ρ' p.1 = none)∧K fr cs ρ' (gr ++ σ)) ∨
  ((∀ b ∈ keys σ,W0.heap.size ≤ b)→K fr cs ρ σ)
section
variable {P:Program} {Pst:Value→World→Prop} {W0:World} {fr:Frame} {cs:List Frame} {ρ:Ro} {σ:Own}
theorem fine_thaw {gr:Own} {ρ':Ro} (hn:Js σ) (hg:∀ p ∈ gr,W0.heap.size ≤ p.1∧∃ o,p.2 = Res.obj o∧ρ p.1 = some o) (hnd:(keys gr).Nodup) (hle:Ro.le ρ' ρ) (hno:∀ p ∈ gr,ρ' p.1 = none)
    (hK:Fine P W0 Pst fr cs ρ' (gr ++ σ)):Fine P W0 Pst fr cs ρ σ:=by
  refine ⟨fun gs w sl t q h=>hK.A gs w sl t q { h with sat:=?_,nr:=?_,newk:=?_ },fun c vs j Am Aw Sh fw cw ρw σw wp gs w sl t q _ h=>absurd h.hc (hn _ _),fun c j Am Aw Sh pc gs w sl t q h=>absurd h.hc (hn _ _)⟩
  · have hk:keys (gr ++ σ) = keys gr ++ keys σ:=List.map_append
    refine ⟨fun k ok hk=>h.sat.ro k ok (hle k ok hk),fun p hp=>?_,?_,fun k hk'=>?_⟩
    · rcases List.mem_append.1 hp with hp | hp
      · obtain ⟨_,o,ho,hr⟩:=hg p hp
        rw [ho]; exact h.sat.ro _ _ hr
      · exact h.sat.own p hp
    · rw [hk,List.nodup_append]
      refine ⟨hnd,h.sat.nd,fun a ha b hb e=>?_⟩
      subst e
      obtain ⟨p,hp,rfl⟩:=List.mem_map.1 ha
      obtain ⟨_,o,_,hr⟩:=hg p hp
      have:=h.sat.dj _ hb
      rw [hr] at this; cases this
    · rw [hk,List.mem_append] at hk'
      rcases hk' with hk' | hk'
      · obtain ⟨p,hp,rfl⟩:=List.mem_map.1 hk'; exact hno p hp
      · cases hr:ρ' k with
        | none=>rfl
        | some o=>have:=h.sat.dj k hk'; rw [hle k o hr] at this; cases this
  · intro c vs hm
    rcases List.mem_append.1 hm with hm | hm
    · obtain ⟨_,o,ho,_⟩:=hg _ hm; cases ho
    · exact hn c vs hm
  · intro b hb
    rw [show keys (gr ++ σ) = keys gr ++ keys σ from List.map_append,List.mem_append] at hb
    rcases hb with hb | hb
    · obtain ⟨p,hp,rfl⟩:=List.mem_map.1 hb; exact (hg p hp).1
    · exact h.newk b hb
theorem fine_fresh (hK:(∀ b ∈ keys σ,W0.heap.size ≤ b)→Fine P W0 Pst fr cs ρ σ):Fine P W0 Pst fr cs ρ σ :=
  ⟨fun gs w sl t q h=>(hK h.newk).A gs w sl t q h,fun c vs j Am Aw Sh fw cw ρw σw wp gs w sl t q hW h=>(hK h.newk).B c vs j Am Aw Sh fw cw ρw σw wp gs w sl t q hW h,fun c j Am Aw Sh pc gs w sl t q h=>(hK h.newk).C c j Am Aw Sh pc gs w sl t q h⟩
theorem fine_of_goesY (h:GoesH ⟨P,true,mainY P W0⟩ (Aiy P W0 Pst) fr cs ρ σ):Fine P W0 Pst fr cs ρ σ:=by
  induction h with
  | stop h=>exact Aev h
  | ghost hg _ ih=>exact ih.ghost hg
  | step K h1 _ ih=>exact Aet h1 ih
  | @ext fr cs ρ σ K h1 _ ih =>
    rcases h1 with (⟨d,i,c,vs,fr',h1,h2,h3,h4,h5⟩ | ⟨i,c,v,vs,z,h1,h2,h3⟩ | ⟨i,c,z,h1,h2,h3⟩) | ⟨gr,ρ',h1,h2,h3,h4,h5,h6⟩ | h1
    · exact Aff h1 h2 h3 h4 (ih _ _ _ _ h5)
    · exact Afs h1 h2 (ih _ _ _ _ h3)
    · exact Afl h1 h2 (ih _ _ _ _ h3)
    · exact fine_thaw h1 h2 h3 h4 h5 (ih _ _ _ _ h6)
    · exact fine_fresh fun hk=>ih _ _ _ _ (h1 hk)
theorem run_of_goesY {F:Frame} (h:GoesH ⟨P,true,mainY P W0⟩ (Aiy P W0 Pst) F [] ρ []) (hro:∀ b o,ρ b = some o→W0.heap[b]? = some o∧o.isChan = false) :
    ∃ M last o w' t',runNT P (M + 1) (solo (G F []) W0) #[] = (.ended o w',t')∧runN P M (solo (G F []) W0) = .next last∧step P last = .ended o w'∧Go.Conc.Good P Pst last o w' t':=by
  have hw:Nq P Pst (crowd #[G F []] W0 none) #[]:=(fine_of_goesY h).A #[G F []] W0 none #[] (fun _=>0) {
    g0:=⟨G F [],rfl,Is.of _ _⟩
    oth:=fun k y hk hy=>by
      match k with
      | 0=>exact absurd rfl hk
      | k + 1=>simp at hy
    sat:=⟨hro,fun p hp=>absurd hp List.not_mem_nil,List.nodup_nil,fun b hb=>absurd hb List.not_mem_nil⟩
    nr:=fun c' vs' hc'=>by cases hc'
    newk:=fun b hb=>by cases hb
    below:=Below.refl _ _
    tr:=TA.nil }
  exact hw
theorem top_of_bodyY {f:FuncId} {r:Nat} {args:List Value} {R:Value→Ro→Own→Prop} (h:Agv ⟨P,true,mainY P W0⟩ f r args ρ [] R) (hi:P.inits.idxOf? f = none)
    (hR:∀ v ρ' σ',R v ρ' σ'→σ' = []∧∀ W,Below W0.heap.size W0 W→Pst v W):GoesH ⟨P,true,mainY P W0⟩ (Aiy P W0 Pst) (Frame.enter P f args.toArray .normal) [] ρ []:=by
  obtain ⟨fn,c,hf,hc,hr,ha,hw⟩:=h
  have hf:P.funcs[f]? = some fn:=hf
  have e1:Frame.enter P f args.toArray .normal = Fr ⟨f,.normal,none⟩ (args.toArray ++ Array.replicate (fn.ntmps - args.toArray.size) undef) [] [.code c]:=by
    simp [Frame.enter,hf,hc,Fr]
  rw [e1]
  refine (hw (fun ex e ds ρ σ=>(∀ id,ex ≠ .exit id)∧ds = []∧R (e r) ρ σ) (fun e ρ' σ' h=>⟨fun id h=>(by cases h),rfl,h⟩) (fun e ρ' σ' h=>⟨fun id h=>(by cases h),rfl,h⟩) _ [] [] (Uj ha)).bind ?_
  rintro _ _ ρ' σ' ⟨rfl,ex,tm',e',ds',todo,h1,⟨h2,rfl,h3⟩,h4,rfl⟩
  obtain ⟨rfl,hp⟩:=hR _ _ _ h3
  have fin:∀ todo,GoesH ⟨P,true,mainY P W0⟩ (Aiy P W0 Pst) { Fr ⟨f,.normal,none⟩ tm' [] todo with mode:=.returning } [] ρ' []:=fun todo=>by
    refine .stop ⟨fun c vs hm=>(by cases hm),fun W hs hb _=>⟨e' r,W,#[],?_,fun ev hv=>by simp at hv,hp W hb⟩⟩
    have hrs:(results fn tm').runT P W #[] = (.ok (e' r) W,#[]):=by
      rw [← h1.2 r]
      unfold results; rw [hr,Array.mapM_eq_foldlM]; rfl
    simp [Conc.G,stepG,Fr,unwind,hf,-Sem.runT_eq,hrs,doReturn,hi,GStep.after,seen]
  cases ex with
  | normal =>
    cases h4
    exact Eh (fr':={ Fr ⟨f,.normal,none⟩ tm' [] [] with mode:=.returning }) (cs':=[]) (fun W=>by simp [Conc.G,stepG,stepG.exec,Fr]) (fin _)
  | exit id=>exact absurd rfl (h2 id)
  | ret =>
    obtain ⟨pre,rfl⟩:=h4
    exact Eh (fr':={ Fr ⟨f,.normal,none⟩ tm' [] (.code .ret :: (pre ++ [])) with mode:=.returning }) (cs':=[]) (fun W=>by simp [Conc.G,stepG,stepG.exec,Fr]) (fin _)
end
theorem GoesH.ctx {P:Program} {mn:Bool} {X Y:Frame→List Frame→Ro→Own→Cy→Prop} (hX:∀ fr cs ρ σ K,X fr cs ρ σ K→Y fr cs ρ σ K) {S:Cy} {fr:Frame} {cs:List Frame} {ρ:Ro} {σ:Own} (h:GoesH ⟨P,mn,X⟩ S fr cs ρ σ):GoesH ⟨P,mn,Y⟩ S fr cs ρ σ:=by
  induction h with
  | stop h=>exact .stop h
  | ghost hg _ ih=>exact .ghost hg ih
  | step K h1 _ ih=>exact .step K h1 ih
  | ext K h1 _ ih=>exact .ext K (hX _ _ _ _ _ h1) ih
noncomputable abbrev CY (W0:World):Ctx:=CX true (mainY Tryd.prog W0)
theorem calls_up {W0:World} {f:FuncId} {args:Array Value} {ρ:Ro} {σ:Own} {R:Value→Ro→Own→Prop} (h:CallsH (CX true (Acu Tryd.prog)) f args ρ σ R):CallsH (CY W0) f args ρ σ R :=
  fun c cs=>(h c cs).ctx fun _ _ _ _ _ h=>.inl h
section
variable {W0:World} {b:FB} {n:Nat} {e:Env} {ds:List Deferred} {ρ:Ro} {σ:Own}
theorem goes_fresh {S:Cy} {fr:Frame} {cs:List Frame} (h:(∀ b ∈ keys σ,W0.heap.size ≤ b)→(keys σ).Nodup→(∀ b ∈ keys σ,ρ b = none)→GoesH (CY W0) S fr cs ρ σ):GoesH (CY W0) S fr cs ρ σ:=by
  by_cases hs:∃ W,Sat ρ σ W
  · obtain ⟨W,hs⟩:=hs
    exact .ext (fun fr' cs' ρ' σ'=>fr' = fr∧cs' = cs∧ρ' = ρ∧σ' = σ∧∀ b ∈ keys σ,W0.heap.size ≤ b) (.inr (.inr fun hk=>⟨rfl,rfl,rfl,rfl,hk⟩)) (by rintro _ _ _ _ ⟨rfl,rfl,rfl,rfl,hk⟩; exact h hk hs.nd hs.dj)
  · exact Rc fun W hW=>hs ⟨W,hW⟩
theorem goes_freezes {C:Ctx} {S:Cy} {fr:Frame} {cs:List Frame}:∀ {gr:Own} {ρ:Ro},(∀ p ∈ gr,∃ o,p.2 = Res.obj o)→(∀ ρ',Ro.le ρ ρ'→(∀ p ∈ gr,∃ o,p.2 = Res.obj o∧ρ' p.1 = some o)→GoesH C S fr cs ρ' σ)→GoesH C S fr cs ρ (gr ++ σ)
  | [],ρ,_,h=>h ρ .refl fun p hp=>by cases hp
  | (k,x) :: gr,ρ,hg,h=>by
    obtain ⟨o,ho⟩:=hg _ (List.mem_cons_self ..)
    simp only at ho; subst ho
    refine Rv fun ρ' h1 h2=>goes_freezes (fun p hp=>hg p (List.mem_cons_of_mem _ hp)) fun ρ'' h3 h4=>h ρ'' (h1.trans h3) fun p hp=>?_
    rcases List.mem_cons.1 hp with rfl | hp
    · exact ⟨o,rfl,h3 _ _ h2⟩
    · exact h4 p hp
/-- Blocks that are lent: frozen for now,newer than the call's world,not read before. -/
structure Lent (W0:World) (ρ0 ρ:Ro) (gr:Own):Prop where
  at_:∀ p ∈ gr,W0.heap.size ≤ p.1∧∃ o,p.2 = Res.obj o∧ρ p.1 = some o
  nd:(keys gr).Nodup
  no:∀ p ∈ gr,ρ0 p.1 = none
  le:Ro.le ρ0 ρ
theorem Lent.mono {ρ0 ρ':Ro} {gr:Own} (hle:Ro.le ρ ρ') (h:Lent W0 ρ0 ρ gr):Lent W0 ρ0 ρ' gr :=
  ⟨fun p hp=>let ⟨h1,o,h2,h3⟩:=h.at_ p hp; ⟨h1,o,h2,hle _ _ h3⟩,h.nd,h.no,h.le.trans hle⟩
theorem goes_lend {α:Type} [Dat α] {S:Cy} {fr:Frame} {cs:List Frame} {el:TypeId} {v:Value} {xs:List α} {gr:Own} (hg:Grow ρ el v xs gr)
    (h:∀ ρ',Ro.le ρ ρ'→Val ρ' v xs→Lent W0 ρ ρ' gr→GoesH (CY W0) S fr cs ρ' σ):GoesH (CY W0) S fr cs ρ (gr ++ σ):=by
  refine goes_fresh fun h1 h2 h3=>goes_freezes hg.1 fun ρ' h4 h5=>h ρ' h4 ?_ ⟨fun p hp=>⟨h1 _ (List.mem_map_of_mem (f:=Prod.fst) (List.mem_append_left _ hp)),h5 p hp⟩,?_,fun p hp=>h3 _ (List.mem_map_of_mem (f:=Prod.fst) (List.mem_append_left _ hp)),h4⟩
  · rcases hg.2.2 with ⟨e1,e2⟩ | ⟨r,cap,cs,rs,gb,e1,e2,e3,e4,e5⟩
    · rw [e1,e2]; exact Gx
    · obtain ⟨o,ho,hr⟩:=h5 (r,.obj (.cells (cs ++ rs).toArray el (0,0))) (by rw [e2]; exact List.mem_cons_self ..)
      cases ho
      exact Grow.val hg.2.1 e1 (e3.mono h4) e5 hr
  · rw [show keys (gr ++ σ) = keys gr ++ keys σ from List.map_append,List.nodup_append] at h2
    exact h2.1
theorem goes_back {S:Cy} {fr:Frame} {cs:List Frame} {gr:Own} {ρ0:Ro} (hL:Lent W0 ρ0 ρ gr) (hn:Js σ) (h:GoesH (CY W0) S fr cs ρ0 (gr ++ σ)):GoesH (CY W0) S fr cs ρ σ :=
  .ext (fun fr' cs' ρ' σ'=>fr' = fr∧cs' = cs∧ρ' = ρ0∧σ' = gr ++ σ) (.inr (.inl ⟨gr,ρ0,hn,hL.at_,hL.nd,hL.le,hL.no,rfl,rfl,rfl,rfl⟩)) (by rintro _ _ _ _ ⟨rfl,rfl,rfl,rfl⟩; exact h)
theorem l_lend {α:Type} [Dat α] {Q:Env→List Deferred→Ro→Own→Prop} {l₀ rest:List Oper} {el:TypeId} {v:Value} {xs:List α} {gr:Own} (hg:Grow ρ el v xs gr) (h:∀ ρ',Ro.le ρ ρ'→Val ρ' v xs→Lent W0 ρ ρ' gr→Ey (CY W0) b n l₀ rest Q e ds ρ' σ):Ey (CY W0) b n l₀ rest Q e ds ρ (gr ++ σ) :=
  fun pre h1 h2 h3 tm k cs ht=>goes_lend hg fun ρ' h4 h5 h6=>h ρ' h4 h5 h6 pre h1 h2 h3 tm k cs ht
theorem wp_back {Q:Hv} {c:Code} {gr:Own} {ρ0:Ro} (hL:Lent W0 ρ0 ρ gr) (hn:Js σ) (h:WpC (CY W0) b n c Q e ds ρ0 (gr ++ σ)):WpC (CY W0) b n c Q e ds ρ σ :=
  fun tm k cs ht=>goes_back hL hn (h tm k cs ht)
end
set_option maxRecDepth 100000 in
/-- As law_lift,with what may be lent. -/
theorem law_liftY {f:FuncId} {r:Nat} {fn:Func} {s:ChangeSpec} (os:Os) (started:os.Started) (H:Type) (enc:TypeId × Value→H) (hfn:Tryd.prog.funcs[f]? = some fn) (hvars:s.vars = []) (hres:fn.resultTypes = #[4]) (hi:Tryd.prog.inits.idxOf? f = none)
    (hts:∀ t ∈ fn.params.toList,Tryd.prog.readableRec t = true∧t < Tryd.prog.types.size)
    (hspec:∀ ds:List (DataW H),ds.length = fn.params.toList.length→s.fn H ds = { results:=[.lit (.bool true)],args:=ds })
    (witness:∃ (w:World) (tape:Tape) (i:Input),w.os = os∧(w.forCall tape i).Shaped Tryd.prog∧i.vars = []∧Input.okWide Tryd.prog (w.forCall tape i) .any w.heap.size f i∧Aqs H enc s fn (w.forCall tape i).memory i.args∧({}:Assume).holds Tryd.prog (lone (Frame.enter Tryd.prog f i.args .normal) [] (w.forCall tape i)))
    (walk:∀ (W:World) (args:List Value) (ds:List (DataW H)) (ps:List MemPlace),(∀ (j:Nat) t v,fn.params[j]? = some t→args.toArray[j]? = some v→∃ b,Value.okWide Tryd.prog W .any b t v)→DataW.TrodAll enc Tryd.prog W 0 (fun _=>true) true fn.params.toList args ds ps →
      (DataW.weightsEach Tryd.prog fn.params.toList ds).all (· ≤ reachBytes) = true→Glob (roW W)→Agv (CY W) f r args (roW W) [] (fun w ρ' σ'=>ρ' = roW W∧σ' = []∧w = .bool true)) :
    ReturnsInLeavingWide {} Tryd.checked os f .any (Aqs H enc s fn) (s.post enc Tryd.prog fn false true false false):=by
  refine returnsInLeavingWide_of_good (C:=Tryd.checked) Aru started witness ?_
  intro w tape i _ _ _ hok hpre _
  obtain ⟨_,_,_,fn',hfn',_,_,_,_,hval⟩:=hok
  have e:fn' = fn:=Option.some.inj (hfn'.symm.trans hfn)
  subst e
  obtain ⟨⟨⟨ds,gs,before,hw,_⟩,hL⟩,hz⟩:=hpre
  have hsz:=hz.weights hw
  have hw':=DataW.Whole.of_heap (w':=w.forCall tape i) (by rfl) hw
  have hL':=hL.of_heap (w':=w.forCall tape i) (by rfl)
  generalize w.forCall tape i = W at *
  obtain ⟨p,q,hA,hV,hb,hnf,hnd⟩:=hw'
  have hV':DataW.TrodVars enc Tryd.prog W (fun _=>true) [] gs q:=by rw [← hvars]; exact hV
  obtain ⟨rfl,rfl⟩:=trodVars_none hV'
  simp only [List.append_nil] at hb
  replace hb:=hb.symm
  subst hb
  have hvt:s.plain.varTypes Tryd.prog = []:=by unfold DataSpec.varTypes ChangeSpec.plain; rw [hvars]; rfl
  rw [show (OpenSpec.ofChange s).bare.plain.varTypes Tryd.prog = [] from hvt,List.append_nil,List.append_nil] at hsz
  obtain ⟨hl1,hl2⟩:=Sa hA
  have hargs:i.args.toList.toArray = i.args:=by simp
  have hbody:=walk W i.args.toList ds p (fun j t v h1 h2=>⟨_,hval j t v h1 (by rw [hargs] at h2; exact h2)⟩) hA hsz (Xd hL')
  have hW0:DataW.Whole enc Tryd.prog fn'.params.toList s.vars false W i.args.toList ds [] p:=⟨p,[],hA,hV,by simp,hnf,hnd⟩
  have hlt:∀ x ∈ p,x.block < W.heap.size:=fun x hx=>by simpa using hW0.lt x hx
  have hgo:=top_of_bodyY (W0:=W) (Pst:=fun v W'=>s.post enc Tryd.prog fn' false true false false W i.args v W') hbody hi fun v ρ' σ' ⟨_,hσ,hv⟩=>⟨hσ,fun W' hbw=>by
    subst hv
    have er:(s.fn H (ds ++ [])) = { results:=[.lit (.bool true)],args:=ds }:=by rw [List.append_nil]; exact hspec ds hl2
    refine ⟨ds,[],p,[],p,[],hW0,?_,?_,?_,hbw.frame _,fun h=>by cases h⟩
    · rw [er,hres]; exact trodAll_mk1 (shut_bool Tryd.underlying4 true)
    · rw [er]; exact On hbw hts hlt hA
    · rw [er,hvars]; rfl⟩
  rw [hargs] at hgo
  obtain ⟨M,last,o,w',t',h1,h2,h3,h4⟩:=run_of_goesY hgo Anq
  exact ⟨M,last,o,w',t',h1,h2,h3,h4.mono fun v hp=>ChangeSpec.post_blind hp⟩
end Go.Proofs.YtoefdnbaklajeaaDoor

namespace Go.Proofs.YtoefdnbaklajeaaDoor
open Go
/-- More may be read,and these blocks are still owned. -/
def leO (ρ₀:Ro) (A:Own):Ro→Own→Prop:=fun ρ' σ'=>Ro.le ρ₀ ρ'∧∀ p ∈ A,p ∈ σ'
def YldO (P:Program) (ρ₀:Ro) (A:Own) (e:Env) (op:Op) (ty:TypeId) (v:Value):Prop :=
  ∀ ρ' σ d pos af g,leO ρ₀ A ρ' σ→wpS P ρ' (execOp (Af e) ⟨d,op,ty,pos,af,g⟩) σ (fun nx σ'=>nx = .value v∧σ' = σ)
theorem Yld.o {P:Program} {ρ₀:Ro} {A:Own} {e:Env} {op:Op} {ty:TypeId} {v:Value} (h:Yld P ρ₀ e op ty v):YldO P ρ₀ A e op ty v:=fun ρ' σ d pos af g hS=>h ρ' σ d pos af g hS.1
theorem subN {σ:Own}:∀ p ∈ ([]:Own),p ∈ σ:=fun p hp=>by cases hp
theorem subC {A σ:Own} {x:Nat × Res} (h:∀ p ∈ A,p ∈ σ):∀ p ∈ x :: A,p ∈ x :: σ:=fun p hp=>by
  rcases List.mem_cons.1 hp with rfl | hp
  · exact List.mem_cons_self ..
  · exact List.mem_cons_of_mem _ (h p hp)
theorem subG {A σ gr:Own} (h:∀ p ∈ A,p ∈ σ):∀ p ∈ gr ++ A,p ∈ gr ++ σ:=fun p hp=>by
  rcases List.mem_append.1 hp with hp | hp
  · exact List.mem_append_left _ hp
  · exact List.mem_append_right _ (h p hp)
theorem subB {A σ:Own} {x:Nat × Res} (h:∀ p ∈ A,p ∈ σ):∀ p ∈ A,p ∈ x :: σ:=fun p hp=>List.mem_cons_of_mem _ (h p hp)
theorem subL {A σ gr:Own} (h:∀ p ∈ A,p ∈ σ):∀ p ∈ A,p ∈ gr ++ σ:=fun p hp=>List.mem_append_right _ (h p hp)
section
variable {C:Ctx} {b:FB} {n:Nat} {l₀ rest:List Oper} {Q:Env→List Deferred→Ro→Own→Prop} {e:Env} {ds:List Deferred} {ρ ρ₀ ρ₁:Ro} {σ A:Own} {pz:List Nat} {fuel:Nat}
variable {d i:Nat} {op:Op} {ty:TypeId} {pos:String} {af:Array Edge} {g:Option (Nat × Bool)} {v:Value} {li:List Bool}
theorem o_begin {id:Nat} {Q:Hv} (A:Own) (pz:List Nat) (hm:C.P.follows .mixedOrders = true) (hs:Nk n l₀ = true) (hk:b.kind = .normal)
    (h:El C b l₀.toArray (fun e ds ρ σ=>Q .normal e ds ρ σ) pz (leO ρ A) l₀.length (List.replicate l₀.length false).toArray e ds ρ σ):WpC C b n (.region id l₀.toArray true) Q e ds ρ σ :=
  Vb pz (leO ρ A) hm (Ie hs) (by rw [hk]; simp) (by simpa using h)
theorem o_end (hr:Dk l₀ li = []) (h:Q e ds ρ σ):El C b l₀.toArray Q pz (leO ρ₀ A) fuel li.toArray e ds ρ σ:=Afi (by rw [Hf]; exact hr) h fuel
theorem o_val (li':List Bool) (hli:li.set i true = li') (ht:Ps l₀ li pz i = true) (hi:l₀[i]? = some ⟨some d,op,ty,pos,af,g⟩)
    (hS:leO ρ₀ A ρ σ) (hw:Bz l₀.toArray ⟨some d,op,ty,pos,af,g⟩ e = true) (hy:YldO C.P ρ₀ A e op ty v) (h:El C b l₀.toArray Q pz (leO ρ₀ A) fuel li'.toArray (upd e d v) ds ρ σ) :
    El C b l₀.toArray Q pz (leO ρ₀ A) (fuel + 1) li.toArray e ds ρ σ:=by
  obtain ⟨h1,h2,h3,h4⟩:=Vy ht
  refine Wg (by rw [List.getElem?_toArray]; exact hi) h1 h2 h3 h4 (.inl ⟨hw,fun ρ' σ' hS'=>hy ρ' σ' _ _ _ _ hS'⟩) hS ?_
  rw [Mm hli]; exact h
theorem o_ghost {ρ':Ro} {σ':Own} (hg:Ghost ρ σ ρ' σ') (hS:leO ρ₀ A ρ σ→leO ρ₀ A ρ' σ') (h:El C b l₀.toArray Q pz (leO ρ₀ A) (fuel + 1) li.toArray e ds ρ' σ'):El C b l₀.toArray Q pz (leO ρ₀ A) (fuel + 1) li.toArray e ds ρ σ:=Aan hg hS h
/-- The one that may come up. -/
theorem o_run (li':List Bool) (hli:li.set i true = li') (hr:Dk l₀ li = [i]) (hi:l₀[i]? = some ⟨some d,op,ty,pos,af,g⟩) (hw:Bz l₀.toArray ⟨some d,op,ty,pos,af,g⟩ e = true)
    (h:wpS C.P ρ (execOp (Af e) ⟨some d,op,ty,pos,af,g⟩) σ (NextH C (fun v ds' ρ' σ'=>leO ρ₀ A ρ' σ'∧El C b l₀.toArray Q pz (leO ρ₀ A) fuel li'.toArray (upd e d v) ds' ρ' σ') b.round ds ρ)) :
    El C b l₀.toArray Q pz (leO ρ₀ A) (fuel + 1) li.toArray e ds ρ σ:=by
  refine Nn ((Hf _ _).trans hr) (by simp) fun j hj=>?_
  rw [List.mem_singleton] at hj; subst hj
  unfold OpH
  simp only [List.getElem?_toArray,hi,Mm hli]
  rw [if_pos hw]
  exact Et (fun nx σ' hn=>hn.mono fun v ds ρ σ hh=>⟨fun _=>hh.1,hh.2⟩) _ _ h
/-- The one that may come up,and that waits for those that were taken first. -/
theorem o_runLN (li':List Bool) (hli:li.set i true = li') (hr:Dk l₀ li = [i]) (hl:Pc l₀.toArray pz i = true) (hi:l₀[i]? = some ⟨none,op,ty,pos,af,g⟩) (hw:Bz l₀.toArray ⟨none,op,ty,pos,af,g⟩ e = true)
    (h:wpS C.P ρ (execOp (Af e) ⟨none,op,ty,pos,af,g⟩) σ (NextH C (fun _ ds' ρ' σ'=>El C b l₀.toArray Q pz (leO ρ₀ A) fuel li'.toArray e ds' ρ' σ') b.round ds ρ)) :
    El C b l₀.toArray Q pz (leO ρ₀ A) (fuel + 1) li.toArray e ds ρ σ:=by
  refine Nn ((Hf _ _).trans hr) (by simp) fun j hj=>?_
  rw [List.mem_singleton] at hj; subst hj
  unfold OpH
  simp only [List.getElem?_toArray,hi,Mm hli]
  rw [if_pos hw]
  exact Et (fun nx σ' hn=>hn.mono fun v ds ρ σ hh=>⟨fun h=>(by rw [hl] at h; cases h),hh⟩) _ _ h
theorem o_val1 (li':List Bool) (hli:li.set i true = li') (hr:Dk l₀ li = [i]) (hi:l₀[i]? = some ⟨some d,op,ty,pos,af,g⟩) (hS:leO ρ₀ A ρ σ) (hw:Bz l₀.toArray ⟨some d,op,ty,pos,af,g⟩ e = true) (hy:YldO C.P ρ₁ A e op ty v) (hS1:leO ρ₁ A ρ σ)
    (h:El C b l₀.toArray Q pz (leO ρ₀ A) fuel li'.toArray (upd e d v) ds ρ σ):El C b l₀.toArray Q pz (leO ρ₀ A) (fuel + 1) li.toArray e ds ρ σ :=
  o_run li' hli hr hi hw (Et (by rintro nx σ' ⟨rfl,rfl⟩; exact ⟨hS,h⟩) _ _ (hy ρ σ _ _ _ _ hS1))
end
section
variable {P:Program} {ρ₀:Ro} {A:Own} {e:Env} {ty t t':TypeId} {x:Operand} {v:Value}
theorem y_loadOC {r off:Nat} {c:List Value} {fz:Nat × Nat} (hT:∃ d,P.underlying t = some d∧Rb d = false) (hx:Af e x = .pointer (some ⟨r,off,none⟩)) (hm:(r,Res.obj (.cells c.toArray t' fz)) ∈ A) (hc:c[off]? = some v):YldO P ρ₀ A e (.load t x) ty v:=fun ρ' σ d pos af g hS=>by
  show wpS P ρ' ((Instr.loadAt t (Af e x)).bind fun v=>Sem.pure (Next.value v)) σ _
  rw [Ad,hx]
  show wpS P ρ' (loadVar t ⟨r,off,none⟩) σ _
  show wpS P ρ' ((isAgg t).bind _) σ _
  rw [Ad]
  refine Hd hT ?_
  exact ⟨rfl,rfl,_,v,.inr (hS.2 _ hm),by simpa [Hc] using hc,rfl,rfl⟩
/-- One cell of an element of a slice that grows is read. -/
theorem y_loadG {α β:Type} [Dat α] [Dat β] {o off i:Nat} {get:α→β} {xs:List α} {z:α} {gr:Own} {el:TypeId} (hf:Fld α β o get) (ha:Dat.agg β = false) (hG:Grow ρ₀ el v xs gr) (hsub:∀ p ∈ gr,p ∈ A) (hi:xs[i]? = some z)
    (hT:∃ d,P.underlying t = some d∧Rb d = false) (hx:Af e x = .pointer (some ⟨Aiv v,off,none⟩)) (ho:off = i * Dat.k α + o):∃ w,Val ρ₀ w (get z)∧YldO P ρ₀ A e (.load t x) ty w:=by
  have hil:i < xs.length:=(List.getElem?_eq_some_iff.1 hi).1
  rcases hG.2.2 with ⟨_,h2⟩ | ⟨r,cap,cs,rs,gb,e1,e2,hr,hl,hc⟩
  · rw [h2] at hil; simp at hil
  · subst e1 e2
    obtain ⟨c,post,h1,h2⟩:=hr.get hi
    obtain ⟨pre,cs',post',h3,h4,h5⟩:=hf.at_ _ _ _ h2
    have h6:cs'.length = 1:=(Dat.len h5).trans (Dat.one ha)
    match cs',h6 with
    | [w],_ =>
      refine ⟨w,⟨[w],h5,by unfold Wr; rw [ha]; rfl⟩,y_loadOC hT hx (hsub _ (List.mem_cons_self ..)) ?_⟩
      have h7:cs.drop off = [w] ++ (post' ++ post):=by rw [ho,← List.drop_drop,h1,h3,← h4,List.append_assoc,List.drop_left,List.append_assoc]
      have h8:cs[off]? = some w:=by
        have:=congrArg (·[0]?) h7
        simpa using this
      rw [List.getElem?_append_left (List.getElem?_eq_some_iff.1 h8).1,h8]
end
theorem sale_set0 {ρ:Ro} {z:Sale} {a:Int} (ha:I64 a) (cs:List Value) (h:Dat.rep ρ cs z):Dat.rep ρ (cs.set 0 (.int .i64 a)) (⟨a,z.sellers⟩:Sale):=by
  obtain ⟨q0,r0,f0,⟨a0,b0⟩,hr⟩:=h
  subst f0 a0
  exact ⟨[.int .i64 a],r0,rfl,⟨rfl,ha⟩,hr⟩
/-- A growing slice of sales,but that the sellers of one of them are held elsewhere. -/
def GrowS (ρ:Ro) (v:Value) (xs:List Sale) (i:Nat) (w:Value) (gr:Own):Prop :=
  (∀ p ∈ gr,∃ o,p.2 = Res.obj o)∧xs.length < 2 ^ 60∧∃ r cap ca cc rs gb z,xs[i]? = some z∧v = .slice (some ⟨r,0,none⟩) xs.length cap∧gr = (r,.obj (.cells (ca ++ (.int .i64 z.grams :: w :: cc) ++ rs).toArray 59 (0,0))) :: gb ∧
    I64 z.grams∧ca.length = i * 2∧(∀ (w':Value) (ys:List Int) (ρ':Ro),Ro.le ρ ρ'→Val ρ' w' ys→Rows ρ' (ca ++ (.int .i64 z.grams :: w' :: cc)) (xs.set i ⟨z.grams,ys⟩))∧(ca ++ (.int .i64 z.grams :: w :: cc) ++ rs).length = cap * 2∧xs.length ≤ cap
theorem GrowS.mono {ρ ρ':Ro} {v w:Value} {xs:List Sale} {i:Nat} {gr:Own} (hle:Ro.le ρ ρ') (h:GrowS ρ v xs i w gr):GrowS ρ' v xs i w gr:=by
  obtain ⟨h1,h2,r,cap,ca,cc,rs,gb,z,h3,h4,h5,h6,h7,h8,h9,h10⟩:=h
  exact ⟨h1,h2,r,cap,ca,cc,rs,gb,z,h3,h4,h5,h6,h7,fun w' ys ρ'' hl hv=>h8 w' ys ρ'' (hle.trans hl) hv,h9,h10⟩
/-- Its sellers are the list that the growing slice itself holds. -/
theorem grow_open {ρ:Ro} {v:Value} {xs:List Sale} {i:Nat} {z:Sale} {gr:Own} (hG:Grow ρ 59 v xs gr) (hi:xs[i]? = some z):∃ w,Val ρ w z.sellers∧GrowS ρ v xs i w gr:=by
  have hil:i < xs.length:=(List.getElem?_eq_some_iff.1 hi).1
  rcases hG.2.2 with ⟨_,h2⟩ | ⟨r,cap,cs,rs,gb,e1,e2,hr,hl,hc⟩
  · rw [h2] at hil; simp at hil
  · have key : ∀ (xs : List Sale) (i : Nat) (cs : List Value), Rows ρ cs xs → xs[i]? = some z → ∃ ca w cc, cs = ca ++ (.int .i64 z.grams :: w :: cc) ∧ I64 z.grams ∧ Val ρ w z.sellers ∧ ca.length = i * 2 ∧
        ∀ (w':Value) (ys:List Int) (ρ':Ro),Ro.le ρ ρ'→Val ρ' w' ys→Rows ρ' (ca ++ (.int .i64 z.grams :: w' :: cc)) (xs.set i ⟨z.grams,ys⟩):=by
      intro xs
      induction xs with
      | nil=>intro i cs _ h; simp at h
      | cons y ys ih =>
        intro i cs hr h
        obtain ⟨c1,c2,g1,g2,g3⟩:=hr
        cases i with
        | zero =>
          obtain rfl:y = z:=by simpa using h
          obtain ⟨q0,r0,f0,⟨a0,b0⟩,⟨u,hu,hs⟩⟩:=g2
          subst g1 f0 a0 hu
          refine ⟨[],u,c2,rfl,b0,Cs.2 hs,rfl,fun w' zs ρ' hle hv=>⟨[.int .i64 y.grams,w'],c2,rfl,⟨[.int .i64 y.grams],[w'],rfl,⟨rfl,b0⟩,⟨w',rfl,Cs.1 hv⟩⟩,g3.mono hle⟩⟩
        | succ i =>
          obtain ⟨ca,w,cc,f1,f2,f3,f4,f5⟩:=ih i c2 g3 (by simpa using h)
          subst g1 f1
          have h2:c1.length = 2:=Dat.len g2
          exact ⟨c1 ++ ca,w,cc,by simp,f2,f3,by rw [List.length_append,h2,f4]; omega,fun w' zs ρ' hle hv=>⟨c1,ca ++ (.int .i64 z.grams :: w' :: cc),by simp,Dat.mono hle g2,f5 w' zs ρ' hle hv⟩⟩
    obtain ⟨ca,w,cc,f1,f2,f3,f4,f5⟩:=key xs i cs hr hi
    subst f1
    exact ⟨w,f3,hG.1,hG.2.1,r,cap,ca,cc,rs,gb,z,hi,e1,e2,f2,f4,f5,hl,hc⟩
theorem grow_shut {ρ:Ro} {v w:Value} {xs:List Sale} {i:Nat} {z:Sale} {ys:List Int} {gr:Own} (h:GrowS ρ v xs i w gr) (hi:xs[i]? = some z) (hw:Val ρ w ys):Grow ρ 59 v (xs.set i ⟨z.grams,ys⟩) gr:=by
  obtain ⟨h1,h2,r,cap,ca,cc,rs,gb,z',h3,h4,h5,h6,h7,h8,h9,h10⟩:=h
  obtain rfl:z = z':=Option.some.inj (hi.symm.trans h3)
  exact ⟨h1,by rw [List.length_set]; exact h2,.inr ⟨r,cap,_,rs,gb,by rw [List.length_set]; exact h4,h5,h8 w ys ρ .refl hw,h9,by rw [List.length_set]; exact h10⟩⟩
section
variable {P:Program} {ρ₀:Ro} {A:Own} {e:Env} {ty t t':TypeId} {x y:Operand} {v w:Value} {xs:List Sale} {i:Nat} {gr:Own}
theorem y_indexGS {el' off':Nat} {k:IntKind} {q:Int} (hT:P.underlying t = some (.slice el')) (hE:∃ i,P.info? el' = some i∧i.size = 2) (hx:Af e x = v) (hv:GrowS ρ₀ v xs i w gr) (hy:Af e y = .int k q) (hq:q = (i:Int)) (ho:i * 2 = off') :
    Yld P ρ₀ e (.indexAddr t x y) ty (.pointer (some ⟨Aiv v,off',none⟩)):=by
  obtain ⟨h1,h2,r,cap,ca,cc,rs,gb,z',h3,h4,_⟩:=hv
  subst h4
  exact Aed i hT hE hx hy hq (List.getElem?_eq_some_iff.1 h3).1 (by omega)
theorem y_loadGS {off:Nat} (hT:∃ d,P.underlying t = some d∧Rb d = false) (hx:Af e x = .pointer (some ⟨Aiv v,off,none⟩)) (hv:GrowS ρ₀ v xs i w gr) (hsub:∀ p ∈ gr,p ∈ A) (ho:off = i * 2 + 1):YldO P ρ₀ A e (.load t x) ty w:=by
  obtain ⟨h1,h2,r,cap,ca,cc,rs,gb,z',h3,h4,h5,h6,h7,_⟩:=hv
  subst h4 h5
  refine y_loadOC hT hx (hsub _ (List.mem_cons_self ..)) ?_
  rw [ho,List.append_assoc,List.getElem?_append_right (by omega),h7,show i * 2 + 1 - i * 2 = 1 by omega]; rfl
end
section
variable {C:Ctx} {e:Env} {ds:List Deferred} {ρ:Ro} {σ:Own} {K:Value→List Deferred→Ro→Own→Prop} {rd:Option Nat} {dd:Option Tmp}
variable {ty:TypeId} {pos:String} {af:Array Edge} {g:Option (Nat × Bool)} {x y:Operand} {v w w':Value} {t t':TypeId} {xs:List Sale} {i:Nat} {gr:Own}
theorem w_storeGS {off:Nat} (hE:∃ i,C.P.info? t = some i∧i.size = 1) (hx:Af e x = .pointer (some ⟨Aiv v,off,none⟩)) (ho:off = i * 2 + 1) (hy:Af e y = w') (hw:single w' = true) (hv:GrowS ρ v xs i w gr)
    (h:∀ gr',GrowS ρ v xs i w' gr'→K undef ds ρ (gr' ++ σ)):wpS C.P ρ (execOp (Af e) ⟨dd,.store t x y,ty,pos,af,g⟩) (gr ++ σ) (NextH C K rd ds ρ):=by
  obtain ⟨h1,h2,r,cap,ca,cc,rs,gb,z',h3,h4,h5,h6,h7,h8,h9,h10⟩:=hv
  subst h4 h5
  refine Cz (j:=0) (off:=off) (c:=ca ++ (.int .i64 z'.grams :: w :: cc) ++ rs) hE hx hy hw rfl (by rw [ho,List.length_append,List.length_append,List.length_cons,List.length_cons]; omega) ?_
  have e3:(ca ++ (.int .i64 z'.grams :: w :: cc) ++ rs).set off w' = ca ++ (.int .i64 z'.grams :: w' :: cc) ++ rs:=by
    rw [ho,List.append_assoc,List.set_append_right _ _ (by omega),h7,show i * 2 + 1 - i * 2 = 1 by omega]; simp
  rw [e3]
  refine h ((r,.obj (.cells (ca ++ (.int .i64 z'.grams :: w' :: cc) ++ rs).toArray 59 (0,0))) :: gb) ⟨fun p hp=>?_,h2,r,cap,ca,cc,rs,gb,z',h3,rfl,rfl,h6,h7,h8,by rw [← h9]; simp,h10⟩
  rcases List.mem_cons.1 hp with rfl | hp
  · exact ⟨_,rfl⟩
  · exact h1 p (List.mem_cons_of_mem _ hp)
end
theorem o_perm {C:Ctx} {b:FB} {l₀:List Oper} {Q:Env→List Deferred→Ro→Own→Prop} {e:Env} {ds:List Deferred} {ρ ρ₀:Ro} {σ σ' A:Own} {pz:List Nat} {fuel:Nat} {li:List Bool} (hp:σ.Perm σ') (h:El C b l₀.toArray Q pz (leO ρ₀ A) (fuel + 1) li.toArray e ds ρ σ'):El C b l₀.toArray Q pz (leO ρ₀ A) (fuel + 1) li.toArray e ds ρ σ :=
  o_ghost (Arx hp) (fun hS=>⟨hS.1,fun p hm=>hp.mem_iff.1 (hS.2 p hm)⟩) h
theorem grow_rep {α:Type} [Dat α] {ρ:Ro} {el:TypeId} {v:Value} {xs:List α} {gr:Own} {i:Nat} {z:α} (hG:Grow ρ el v xs gr) (hi:xs[i]? = some z):∃ cs,Dat.rep ρ cs z:=by
  rcases hG.2.2 with ⟨_,h2⟩ | ⟨r,cap,cs,rs,gb,e1,e2,hr,_⟩
  · subst h2; simp at hi
  · obtain ⟨c,post,_,h2⟩:=hr.get hi; exact ⟨c,h2⟩
theorem grow_g64 {ρ:Ro} {el:TypeId} {v:Value} {xs:List Sale} {gr:Own} {i:Nat} {z:Sale} (hG:Grow ρ el v xs gr) (hi:xs[i]? = some z):I64 z.grams:=by
  obtain ⟨_,q0,r0,f0,⟨_,b0⟩,_⟩:=grow_rep hG hi; exact b0
section
variable {P:Program} {ρ₀ ρ:Ro} {A:Own} {e:Env} {ty t t':TypeId} {x y:Operand} {v:Value}
theorem y_loadGg {off i:Nat} {xs:List Sale} {z:Sale} {gr:Own} {el:TypeId} (hG:Grow ρ₀ el v xs gr) (hsub:∀ p ∈ gr,p ∈ A) (hi:xs[i]? = some z) (hT:∃ d,P.underlying t = some d∧Rb d = false) (hx:Af e x = .pointer (some ⟨Aiv v,off,none⟩)) (ho:off = i * Dat.k Sale + 0):YldO P ρ₀ A e (.load t x) ty (.int .i64 z.grams):=by
  obtain ⟨w,h1,h2⟩:=y_loadG (ty:=ty) Sale.f_grams rfl hG hsub hi hT hx ho
  obtain ⟨rfl,_⟩:=Cv.1 h1
  exact h2
end
theorem o_freezeG {α:Type} [Dat α] {C:Ctx} {b:FB} {l₀:List Oper} {Q:Env→List Deferred→Ro→Own→Prop} {e:Env} {ds:List Deferred} {ρ ρ₀:Ro} {σ A:Own} {pz:List Nat} {fuel:Nat} {li:List Bool} {v:Value} {el:TypeId} {xs:List α} {gr:Own} (hg:Grow ρ el v xs gr) (hA:∀ p ∈ A,p ∈ σ)
    (h:∀ ρ',Ro.le ρ ρ'→Val ρ' v xs→El C b l₀.toArray Q pz (leO ρ₀ A) (fuel + 1) li.toArray e ds ρ' σ):El C b l₀.toArray Q pz (leO ρ₀ A) (fuel + 1) li.toArray e ds ρ (gr ++ σ):=by
  rcases hg.2.2 with ⟨h1,h2⟩ | ⟨r,cap,cs,rs,gb,h1,h2,h3,h4,h5⟩
  · refine o_ghost (Wc hg.1) (fun hS=>⟨hS.1,hA⟩) (h ρ .refl ?_)
    rw [h1,h2]; exact Gx
  · subst h2
    by_cases hb:ρ r = none
    · have hle:Ro.le ρ (ρ.add r (.cells (cs ++ rs).toArray el (0,0))):=fun x ox hx=>by
        unfold Ro.add; rw [if_neg (fun e=>by rw [e,hb] at hx; cases hx)]; exact hx
      show El C b l₀.toArray Q pz (leO ρ₀ A) (fuel + 1) li.toArray e ds ρ ((r,_) :: (gb ++ σ))
      exact o_ghost ((Ghost.freeze hb).trans (Wc fun p hp=>hg.1 p (List.mem_cons_of_mem _ hp))) (fun hS=>⟨hS.1.trans hle,hA⟩) (h _ hle (Grow.val (rs:=rs) (el:=el) hg.2.1 h1 (h3.mono hle) h5 (by simp [Ro.add])))
    · exact .inl fun W hs=>absurd (hs.dj r (List.mem_cons_self ..)) hb
end Go.Proofs.YtoefdnbaklajeaaDoor

namespace Go.Proofs.YtoefdnbaklajeaaDoor
open Go
theorem mem_lv {m:Market} {n x:Nat}:x ∈ lv m n↔x < 1 <<< m.houses.length∧De x = n∧Fk m x = true:=by
  unfold lv Aoo
  rw [List.mem_filter,List.mem_range,Bool.and_eq_true,beq_iff_eq]
theorem lv_ne {m:Market} {n x:Nat} (h:x ∈ lv m n):(!(lv m n).isEmpty) = true:=by
  cases hl:lv m n with
  | nil=>rw [hl] at h; cases h
  | cons a l=>rfl
theorem che_is {m:Market} (ok:MarketOk m):(∃ x,x ∈ lv m (Abl m))∧∀ j,j < Abl m→∀ x,x ∉ lv m j:=by
  obtain ⟨n,hn,he⟩:=Aku ok
  unfold Abl
  rcases Ft (n:=m.houses.length + 1) (p:=fun n=>!(lv m n).isEmpty) with ⟨i,_,hp,hlt,hf⟩ | ⟨h1,_⟩
  · rw [hf]
    refine ⟨?_,fun j hj x hx=>?_⟩
    · show ∃ x,x ∈ lv m i
      cases hl:lv m i with
      | nil=>simp only [hl] at hp; cases hp
      | cons a l=>exact ⟨a,List.mem_cons_self ..⟩
    · have h2:=hlt j hj
      have h3:=lv_ne hx
      rw [h2] at h3; cases h3
  · have:=h1 n hn
    rw [he] at this; cases this
theorem che_le {m:Market} (ok:MarketOk m) {x:Nat} (hx:x < 1 <<< m.houses.length) (he:Fk m x = true):Abl m ≤ De x:=by
  rcases Nat.lt_or_ge (De x) (Abl m) with h | h
  · exact absurd (mem_lv.2 ⟨hx,rfl,he⟩) ((che_is ok).2 _ h x)
  · exact h
def overT (m:Market) (T:Nat→Bool):Int:=Df 8 (fun s=>if T s then Em m s else 0) - Df 5 (fun h=>if nbr (Ds m) T h then Eo m h else 0)
theorem over_sel {m:Market} (ok:MarketOk m) (T:Nat→Bool):Tf m (Mw T m.sales) = overT m T:=by
  have hgr:∀ i x,m.sales[i]? = some x→Em m i = x.grams:=fun i x hx=>by simp [Em,hx]
  have hsl:∀ h i x,m.sales[i]? = some x→Ds m i h = Gp x h:=fun h i x hx=>by simp [Ds,hx]
  have hn8:=ok.nsales
  have hlen:Df 8 (fun s=>if T s then Em m s else 0) = ((Mw T m.sales).map Sale.grams).sum:=by
    rw [Aac (F:=Em m) fun i x hx=>hgr i x hx]
    exact Agm hn8 fun i h1 _=>by
      have:Em m i = 0:=by unfold Em; rw [List.getElem?_eq_none h1]
      rw [this]; simp
  have hnb:∀ h,nbr (Ds m) T h = (Mw T m.sales).any (Gp · h):=fun h=>by
    rw [Bool.eq_iff_iff,Zo (P:=fun i=>Ds m i h) fun i x hx=>hsl h i x hx,Aco]
    constructor
    · rintro ⟨s,_,h2,h3⟩
      refine ⟨s,?_,h2,h3⟩
      rcases Nat.lt_or_ge s m.sales.length with hlt | hge
      · exact hlt
      · unfold Ds at h3; rw [List.getElem?_eq_none hge] at h3; cases h3
    · rintro ⟨s,h1,h2,h3⟩; exact ⟨s,by omega,h2,h3⟩
  unfold Tf overT
  rw [hlen]
  congr 1
  exact Ev fun h _=>by rw [hnb]
theorem exc_T {m:Market} (h:Ch m = 0) (T:Nat→Bool):overT m T ≤ Aik m:=by
  unfold Aik
  rw [if_pos h,← over_sel (Qv h)]
  exact exc_le selI_sub
theorem exc_at_T {m:Market} (h:Ch m = 0):∃ T,Aik m = overT m T:=by
  unfold Aik
  rw [if_pos h]
  obtain ⟨ss,h1,h2⟩:=exc_at (m:=m)
  obtain ⟨T,rfl⟩:=Ajc h1
  exact ⟨T,by rw [h2,over_sel (Qv h)]⟩
structure Eases (m o:Market):Prop where
  houses:o.houses.length = m.houses.length
  grams:∀ s,s < 8→Em o s ≤ Em m s
  sells:∀ s h,h < 5→Ds m s h = true→Ds o s h = true
  gives:∀ h:Nat,h < 5→Eo m h ≤ Eo o h
theorem eases_nbr {m o:Market} (e:Eases m o) {T:Nat→Bool} {h:Nat} (hh:h < 5) (hn:nbr (Ds m) T h = true):nbr (Ds o) T h = true:=by
  obtain ⟨s,h1,h2,h3⟩:=Aco.1 hn
  exact Aco.2 ⟨s,h1,h2,e.sells s h hh h3⟩
theorem eases_grams {m o:Market} (e:Eases m o) {T:Nat→Bool}:Df 8 (fun s=>if T s then Em o s else 0) ≤ Df 8 (fun s=>if T s then Em m s else 0) :=
  Of fun i hi=>by
    cases T i with
    | true=>simpa using e.grams i hi
    | false=>simp
theorem eases_over {m o:Market} (e:Eases m o) (ok:MarketOk o) (T:Nat→Bool):overT o T ≤ overT m T:=by
  have h1:=eases_grams e (T:=T)
  have h2:Df 5 (fun h=>if nbr (Ds m) T h then Eo m h else 0) ≤ Df 5 (fun h=>if nbr (Ds o) T h then Eo o h else 0):=Of fun h hh=>by
    have h3:=e.gives h hh
    have h4:=Pl ok (h:Int)
    cases hn:nbr (Ds m) T h with
    | true=>rw [eases_nbr e hh hn]; simpa using h3
    | false=>cases nbr (Ds o) T h <;> simp [h4]
  unfold overT
  omega
theorem eases_exc {m o:Market} (e:Eases m o) (hm:Ch m = 0) (ho:Ch o = 0):Aik o ≤ Aik m:=by
  obtain ⟨T,hT⟩:=exc_at_T ho
  have:=eases_over e (Qv ho) T
  have:=exc_T hm T
  omega
theorem eases_enough {m o:Market} (e:Eases m o) (hm:Ch m = 0) (ho:Ch o = 0) {set:Nat} (h:Fk m set = true):Fk o set = true:=by
  rw [← Zk (Qv ho)]
  rw [← Zk (Qv hm)] at h
  intro T
  have h1:=eases_grams e (T:=T)
  have h2:Df 5 (fun h=>if nbr (Ds m) T h then Mp m set h else 0) ≤ Df 5 (fun h=>if nbr (Ds o) T h then Mp o set h else 0):=Of fun h hh=>by
    have h3:Mp m set h ≤ Mp o set h:=by
      unfold Mp
      have:=e.gives h hh
      split <;> omega
    have h4:0 ≤ Mp o set h:=by
      unfold Mp
      have:=Pl (Qv ho) (h:Int)
      split <;> omega
    cases hn:nbr (Ds m) T h with
    | true=>rw [eases_nbr e hh hn]; simpa using h3
    | false=>cases nbr (Ds o) T h <;> simp [h4]
  have h3:=h T
  omega
theorem eases_che {m o:Market} (e:Eases m o) (hm:Ch m = 0) (ho:Ch o = 0):Akj o ≤ Akj m:=by
  obtain ⟨x,hx⟩:=(che_is (Qv hm)).1
  obtain ⟨h1,h2,h3⟩:=mem_lv.1 hx
  have h4:=che_le (Qv ho) (x:=x) (by rw [e.houses]; exact h1) (eases_enough e hm ho h3)
  unfold Akj
  rw [if_pos hm,if_pos ho]
  omega
theorem overS_comm {m:Market} {s1 s2:List Sale}:Tf m (s1 ++ s2) = Tf m (s2 ++ s1):=by
  unfold Tf
  congr 1
  · simp [Int.add_comm]
  · exact Ev fun h _=>by rw [List.any_append,List.any_append,Bool.or_comm]
theorem rot_le {hs mk:List ByteArray} {fs:List FField} {a b:List Sale} (h1:Ch ⟨hs,mk,fs,a ++ b⟩ = 0) (h2:Ch ⟨hs,mk,fs,b ++ a⟩ = 0):Aik ⟨hs,mk,fs,b ++ a⟩ ≤ Aik ⟨hs,mk,fs,a ++ b⟩:=by
  obtain ⟨ss,h3,h4⟩:=exc_at (m:=⟨hs,mk,fs,b ++ a⟩)
  obtain ⟨s1,s2,rfl,h5,h6⟩:=List.sublist_append_iff.1 h3
  have h7:(s2 ++ s1).Sublist (a ++ b):=h6.append h5
  have h8:=exc_le (m:=⟨hs,mk,fs,a ++ b⟩) h7
  unfold Aik
  rw [if_pos h1,if_pos h2,h4,overS_comm]
  exact h8
theorem rot_enough {hs mk:List ByteArray} {fs:List FField} {a b:List Sale} {set:Nat} (h:Fk ⟨hs,mk,fs,a ++ b⟩ set = true):Fk ⟨hs,mk,fs,b ++ a⟩ set = true:=by
  rw [Pf] at h ⊢
  intro ss h3 h4
  obtain ⟨s1,s2,rfl,h5,h6⟩:=List.sublist_append_iff.1 h3
  rw [overS_comm]
  exact h (s2 ++ s1) (h6.append h5) fun s hs=>h4 s (by simp only [List.mem_append] at *; exact hs.symm)
theorem rot_eq {hs mk:List ByteArray} {fs:List FField} {a b:List Sale} (h1:Ch ⟨hs,mk,fs,a ++ b⟩ = 0) (h2:Ch ⟨hs,mk,fs,b ++ a⟩ = 0) :
    Aik ⟨hs,mk,fs,b ++ a⟩ = Aik ⟨hs,mk,fs,a ++ b⟩∧Akj ⟨hs,mk,fs,b ++ a⟩ = Akj ⟨hs,mk,fs,a ++ b⟩∧Alc ⟨hs,mk,fs,b ++ a⟩ = Alc ⟨hs,mk,fs,a ++ b⟩:=by
  have he:Fk ⟨hs,mk,fs,b ++ a⟩ = Fk ⟨hs,mk,fs,a ++ b⟩:=by
    funext set
    rw [Bool.eq_iff_iff]
    exact ⟨rot_enough,rot_enough⟩
  have hlv:lv ⟨hs,mk,fs,b ++ a⟩ = lv ⟨hs,mk,fs,a ++ b⟩:=by
    funext n; unfold lv Aoo; rw [he]
  have hc:Abl ⟨hs,mk,fs,b ++ a⟩ = Abl ⟨hs,mk,fs,a ++ b⟩:=by unfold Abl; rw [hlv]
  refine ⟨by have:=rot_le h1 h2; have:=rot_le h2 h1; omega,?_,?_⟩
  · unfold Akj; rw [if_pos h1,if_pos h2,hc]
  · unfold Alc; rw [if_pos h1,if_pos h2]; unfold Apv; rw [hc,hlv]
end Go.Proofs.YtoefdnbaklajeaaDoor

namespace Go.Proofs.YtoefdnbaklajeaaDoor
open Go
theorem marketF_mk {m:Market} (ok:MarketOk m):Ch m = 0:=by
  unfold Ch
  simp only [Jr]
  refine ⟨ok.houses,ok.marks,?_,?_⟩
  · unfold Ew
    rw [if_neg (by have:=ok.nfields; omega),Fz]
    intro i hi
    have hx:m.fields[i]? = some m.fields[i]:=List.getElem?_eq_getElem hi
    obtain ⟨h1,h2,h3,h4,h5,h6⟩:=ok.field i _ hx
    simp only [fieldAt,hx]
    rw [if_pos h1,if_neg (by rw [Fs.2 h2]; simp),if_pos (Ge.2 h3),if_pos (Rg.2 h4)]
    exact Zg.2 ⟨by omega,h6⟩
  · unfold Jb
    rw [if_neg (by have:=ok.nsales; omega),Fz]
    intro i hi
    have hx:m.sales[i]? = some m.sales[i]:=List.getElem?_eq_getElem hi
    obtain ⟨h1,h2,h3,h4⟩:=ok.sale i _ hx
    simp only [Iz,hx]
    rw [if_pos (Ge.2 h1),if_neg (fun e=>h2 (List.eq_nil_of_length_eq_zero (by omega))),Fz]
    intro k hk
    have hs:m.sales[i].sellers[k]? = some m.sales[i].sellers[k]:=List.getElem?_eq_getElem hk
    simp only [Gu,hs]
    rw [if_pos (Ge.2 (h3 k _ hs))]
    by_cases h0:0 < k
    · have hp:m.sales[i].sellers[k - 1]? = some m.sales[i].sellers[k - 1]:=List.getElem?_eq_getElem (by omega)
      have:=h4 (k - 1) _ _ hp (by rw [show k - 1 + 1 = k by omega]; exact hs)
      rw [if_pos h0,hp]
      simp only
      rw [if_neg (by omega)]
    · rw [if_neg h0]
theorem MarketOk.sales {m:Market} (ok:MarketOk m) {ss:List Sale} (hl:ss.length ≤ 8) (h:∀ (i:Nat) (s:Sale),ss[i]? = some s→(0 ≤ s.grams∧s.grams ≤ 1000000)∧s.sellers ≠ []∧(∀ (k:Nat) (h:Int),s.sellers[k]? = some h→0 ≤ h∧h ≤ (m.houses.length:Int) - 1)∧∀ (k:Nat) (h h':Int),s.sellers[k]? = some h→s.sellers[k + 1]? = some h'→h < h') :
    MarketOk ⟨m.houses,m.marks,m.fields,ss⟩ where
  houses:=ok.houses
  marks:=ok.marks
  nfields:=ok.nfields
  nsales:=hl
  field:=ok.field
  sale:=h
theorem rot_market {m:Market} (ok:MarketOk m) {i:Nat}:MarketOk ⟨m.houses,m.marks,m.fields,m.sales.drop i ++ m.sales.take i⟩:=by
  refine ok.sales (by have:=ok.nsales; simp; omega) fun j s hs=>?_
  have hm:s ∈ m.sales:=by
    rcases List.mem_append.1 (List.mem_of_getElem? hs) with h | h
    · exact List.mem_of_mem_drop h
    · exact List.mem_of_mem_take h
  obtain ⟨k,hk⟩:=List.mem_iff_getElem?.1 hm
  exact ok.sale k s hk
theorem turn_law {m:Market} {i:Nat} (hm:Ch m = 0):Ch ⟨m.houses,m.marks,m.fields,m.sales.drop i ++ m.sales.take i⟩ = 0∧Aik ⟨m.houses,m.marks,m.fields,m.sales.drop i ++ m.sales.take i⟩ = Aik m ∧
    Akj ⟨m.houses,m.marks,m.fields,m.sales.drop i ++ m.sales.take i⟩ = Akj m∧Alc ⟨m.houses,m.marks,m.fields,m.sales.drop i ++ m.sales.take i⟩ = Alc m:=by
  have h2:=marketF_mk (rot_market (Qv hm) (i:=i))
  have e:(⟨m.houses,m.marks,m.fields,m.sales.take i ++ m.sales.drop i⟩:Market) = m:=by rw [List.take_append_drop]
  have:=rot_eq (hs:=m.houses) (mk:=m.marks) (fs:=m.fields) (a:=m.sales.take i) (b:=m.sales.drop i) (by rw [e]; exact hm) h2
  rw [e] at this
  exact ⟨h2,this⟩
theorem set_get {α:Type} {l:List α} {i j:Nat} {a b x:α} (ha:l[i]? = some a) (hx:(l.set i b)[j]? = some x):(j = i∧x = b)∨(j ≠ i∧l[j]? = some x):=by
  rw [List.getElem?_set] at hx
  by_cases e:i = j
  · subst e
    rw [if_pos rfl,if_pos (List.getElem?_eq_some_iff.1 ha).1] at hx
    exact .inl ⟨rfl,(Option.some.inj hx).symm⟩
  · rw [if_neg e] at hx; exact .inr ⟨fun h=>e h.symm,hx⟩
theorem sale_eases {m:Market} {i:Nat} {a b:Sale} (ha:m.sales[i]? = some a) (hg:b.grams ≤ a.grams) (hs:∀ h:Nat,h < 5→Gp a h = true→Gp b h = true):Eases m ⟨m.houses,m.marks,m.fields,m.sales.set i b⟩ where
  houses:=rfl
  grams s _:=by
    unfold Em
    simp only [List.getElem?_set]
    by_cases e:i = s
    · subst e
      rw [if_pos rfl,if_pos (List.getElem?_eq_some_iff.1 ha).1,ha]; exact hg
    · rw [if_neg e]; exact Int.le_refl _
  sells s h hh:=by
    unfold Ds
    simp only [List.getElem?_set]
    by_cases e:i = s
    · subst e
      rw [if_pos rfl,if_pos (List.getElem?_eq_some_iff.1 ha).1,ha]; exact hs h hh
    · rw [if_neg e]; exact id
  gives h _:=Int.le_refl _
theorem sale_law {m:Market} {i:Nat} {a b:Sale} (hm:Ch m = 0) (ha:m.sales[i]? = some a) (hb:(0 ≤ b.grams∧b.grams ≤ 1000000)∧b.sellers ≠ []∧(∀ (k:Nat) (h:Int),b.sellers[k]? = some h→0 ≤ h∧h ≤ (m.houses.length:Int) - 1)∧∀ (k:Nat) (h h':Int),b.sellers[k]? = some h→b.sellers[k + 1]? = some h'→h < h')
    (hg:b.grams ≤ a.grams) (hs:∀ h:Nat,h < 5→Gp a h = true→Gp b h = true) :
    Ch ⟨m.houses,m.marks,m.fields,m.sales.set i b⟩ = 0∧Aik ⟨m.houses,m.marks,m.fields,m.sales.set i b⟩ ≤ Aik m∧Akj ⟨m.houses,m.marks,m.fields,m.sales.set i b⟩ ≤ Akj m:=by
  have ok:=Qv hm
  have h1:Ch ⟨m.houses,m.marks,m.fields,m.sales.set i b⟩ = 0:=marketF_mk (ok.sales (by have:=ok.nsales; simp; omega) fun j s hj=>by
    rcases set_get ha hj with ⟨_,rfl⟩ | ⟨_,hj⟩
    · exact hb
    · exact ok.sale j s hj)
  have e:=sale_eases ha hg hs
  exact ⟨h1,eases_exc e hm h1,eases_che e hm h1⟩
theorem less_law {m:Market} {i:Nat} {a:Sale} {n:Nat} (hm:Ch m = 0) (ha:m.sales[i]? = some a) :
    Ch ⟨m.houses,m.marks,m.fields,m.sales.set i ⟨max 0 (a.grams - (n:Int)),a.sellers⟩⟩ = 0∧Aik ⟨m.houses,m.marks,m.fields,m.sales.set i ⟨max 0 (a.grams - (n:Int)),a.sellers⟩⟩ ≤ Aik m∧Akj ⟨m.houses,m.marks,m.fields,m.sales.set i ⟨max 0 (a.grams - (n:Int)),a.sellers⟩⟩ ≤ Akj m:=by
  obtain ⟨h1,h2,h3,h4⟩:=(Qv hm).sale i a ha
  exact sale_law hm ha ⟨⟨by simp only; omega,by simp only; omega⟩,h2,h3,h4⟩ (by simp only; omega) fun h _ hs=>hs
/-- A list has a number. -/
def hasB (l:List Int) (h:Nat):Bool:=l.any fun x=>x == (h:Int)
def wideB (a:Sale) (k h:Nat):Bool:=h == k || hasB a.sellers h
def wideTo (a:Sale) (k n:Nat):List Int:=((List.range n).filter (wideB a k)).map Int.ofNat
theorem asc_filterR {p:Nat→Bool}:∀ (n k:Nat) (h h':Int),(((List.range n).filter p).map Int.ofNat)[k]? = some h→(((List.range n).filter p).map Int.ofNat)[k + 1]? = some h'→h < h':=by
  intro n k h h' h1 h2
  rw [List.getElem?_map] at h1 h2
  obtain ⟨a,ha,rfl⟩:=Option.map_eq_some_iff.1 h1
  obtain ⟨b,hb,rfl⟩:=Option.map_eq_some_iff.1 h2
  have hp:((List.range n).filter p).Pairwise (· < ·):=List.pairwise_lt_range.filter _
  obtain ⟨hka,ea⟩:=List.getElem?_eq_some_iff.1 ha
  obtain ⟨hkb,eb⟩:=List.getElem?_eq_some_iff.1 hb
  have:=List.pairwise_iff_getElem.1 hp k (k + 1) hka hkb (by omega)
  rw [ea,eb] at this
  exact Int.ofNat_lt.2 this
theorem wide_law {m:Market} {i k:Nat} {a:Sale} (hm:Ch m = 0) (ha:m.sales[i]? = some a) (hk:k < m.houses.length) :
    Ch ⟨m.houses,m.marks,m.fields,m.sales.set i ⟨a.grams,wideTo a k m.houses.length⟩⟩ = 0∧Aik ⟨m.houses,m.marks,m.fields,m.sales.set i ⟨a.grams,wideTo a k m.houses.length⟩⟩ ≤ Aik m∧Akj ⟨m.houses,m.marks,m.fields,m.sales.set i ⟨a.grams,wideTo a k m.houses.length⟩⟩ ≤ Akj m:=by
  have ok:=Qv hm
  obtain ⟨h1,h2,h3,h4⟩:=ok.sale i a ha
  have hin:∀ h:Nat,h < m.houses.length→wideB a k h = true→(h:Int) ∈ wideTo a k m.houses.length:=fun h hh hw=>List.mem_map.2 ⟨h,List.mem_filter.2 ⟨List.mem_range.2 hh,hw⟩,rfl⟩
  refine sale_law hm ha ⟨h1,fun e=>?_,fun j h hj=>?_,asc_filterR _⟩ (Int.le_refl _) fun h _ hs=>?_
  · have:=hin k hk (by simp [wideB])
    simp only at e
    rw [e] at this; cases this
  · obtain ⟨x,hx,rfl⟩:=List.mem_map.1 (List.mem_of_getElem? hj)
    have:=List.mem_range.1 (List.mem_filter.1 hx).1
    exact ⟨Int.natCast_nonneg _,by show (x:Int) ≤ _; omega⟩
  · unfold Gp at hs ⊢
    obtain ⟨x,hx,he⟩:=List.any_eq_true.1 hs
    have he':x = (h:Int):=eq_of_beq he
    obtain ⟨j,hj⟩:=List.mem_iff_getElem?.1 hx
    have:=h3 j x hj
    exact List.any_eq_true.2 ⟨(h:Int),hin h (by omega) (by unfold wideB hasB; rw [Bool.or_eq_true]; exact .inr hs),by simp⟩
theorem wideTo_succ {a:Sale} {k n:Nat}:wideTo a k (n + 1) = wideTo a k n ++ (if wideB a k n then [(n:Int)] else []):=range_filter
def growF (n:Nat) (x:FField):FField:=⟨x.name,x.house,⟨x.grows.low,min 1000000 (x.grows.high + (n:Int))⟩,x.marks⟩
theorem MarketOk.fieldsOf {m:Market} (ok:MarketOk m) {n:Nat}:MarketOk ⟨m.houses,m.marks,m.fields.map (growF n),m.sales⟩ where
  houses:=ok.houses
  marks:=ok.marks
  nfields:=by simpa using ok.nfields
  nsales:=ok.nsales
  field i x hx:=by
    simp only at hx
    rw [List.getElem?_map] at hx
    obtain ⟨y,hy,rfl⟩:=Option.map_eq_some_iff.1 hx
    obtain ⟨h1,h2,h3,h4,h5⟩:=ok.field i y hy
    refine ⟨h1,fun k hk=>?_,h3,⟨h4.1,?_,?_⟩,h5⟩
    · have:=h2 k hk
      unfold Mq at this ⊢
      simp only [List.getElem?_map]
      cases hz:m.fields[k]? with
      | none=>rfl
      | some z=>rw [hz] at this; exact this
    · simp only [growF]; omega
    · simp only [growF]; omega
  sale:=ok.sale
theorem gives_map {m:Market} {n:Nat} (ok:MarketOk m) {h:Int}:Eo m h ≤ Eo ⟨m.houses,m.marks,m.fields.map (growF n),m.sales⟩ h:=by
  unfold Eo
  simp only
  have hf:∀ x ∈ m.fields,x.grows.high ≤ 1000000:=fun x hx=>by
    obtain ⟨j,hj⟩:=List.mem_iff_getElem?.1 hx
    exact (ok.field j x hj).2.2.2.1.2.2
  generalize m.fields = fs at hf
  induction fs with
  | nil=>exact Int.le_refl _
  | cons x fs ih =>
    have h1:=ih fun y hy=>hf y (List.mem_cons_of_mem _ hy)
    have h2:=hf x (List.mem_cons_self ..)
    simp only [List.map_cons,List.sum_cons]
    have:Es h x ≤ Es h (growF n x):=by
      unfold Es growF
      simp only
      split <;> omega
    omega
theorem fields_law {m:Market} {n:Nat} (hm:Ch m = 0):Ch ⟨m.houses,m.marks,m.fields.map (growF n),m.sales⟩ = 0∧Aik ⟨m.houses,m.marks,m.fields.map (growF n),m.sales⟩ ≤ Aik m∧Akj ⟨m.houses,m.marks,m.fields.map (growF n),m.sales⟩ ≤ Akj m:=by
  have ok:=Qv hm
  have h1:=marketF_mk (ok.fieldsOf (n:=n))
  have e:Eases m ⟨m.houses,m.marks,m.fields.map (growF n),m.sales⟩:=⟨rfl,fun s _=>Int.le_refl _,fun s h _=>id,fun h _=>gives_map ok⟩
  exact ⟨h1,eases_exc e hm h1,eases_che e hm h1⟩
theorem field_law {m:Market} {x:FField} (hm:Ch m = 0) (h1:Ch ⟨m.houses,m.marks,m.fields ++ [x],m.sales⟩ = 0):Aik ⟨m.houses,m.marks,m.fields ++ [x],m.sales⟩ ≤ Aik m∧Akj ⟨m.houses,m.marks,m.fields ++ [x],m.sales⟩ ≤ Akj m:=by
  have ok:=Qv h1
  have hx:=(ok.field m.fields.length x (by simp)).2.2.2.1
  have e:Eases m ⟨m.houses,m.marks,m.fields ++ [x],m.sales⟩:=⟨rfl,fun s _=>Int.le_refl _,fun s h _=>id,fun h _=>by
    unfold Eo
    simp only [List.map_append,List.sum_append,List.map_cons,List.map_nil,List.sum_cons,List.sum_nil]
    have:0 ≤ Es (h:Int) x:=by unfold Es; split <;> omega
    omega⟩
  exact ⟨eases_exc e hm h1,eases_che e hm h1⟩
/-- Both: the fields grow more,and there is one more of them. -/
theorem fields2_law {m:Market} {n:Nat} {x:FField} (hm:Ch m = 0) (h1:Ch ⟨m.houses,m.marks,m.fields.map (growF n) ++ [x],m.sales⟩ = 0):Aik ⟨m.houses,m.marks,m.fields.map (growF n) ++ [x],m.sales⟩ ≤ Aik m∧Akj ⟨m.houses,m.marks,m.fields.map (growF n) ++ [x],m.sales⟩ ≤ Akj m:=by
  obtain ⟨h2,h3,h4⟩:=fields_law (n:=n) hm
  obtain ⟨h5,h6⟩:=field_law (m:=⟨m.houses,m.marks,m.fields.map (growF n),m.sales⟩) (x:=x) h2 h1
  exact ⟨Int.le_trans h5 h3,Int.le_trans h6 h4⟩
end Go.Proofs.YtoefdnbaklajeaaDoor
