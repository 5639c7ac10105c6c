/- Every call of crocuslaw08.FakeMore returns true, on every schedule, and leaves its arguments as they were: conditions: the two listed package-level variables hold what the program's text lays. -/
import Derived.Test.YtoefdnbaklajeaaDoorB5
import Derived.Carry
import Derived.ChangeArms
import Derived.ChangeSame
import Derived.ChangeVars
import Derived.Conc.Holds
import Derived.Conc.LeavingOf
import Derived.FnData
import Derived.LaidHandle
import Derived.LaidLaws
import Derived.LaidMore
import Derived.Laws.BitsAllLaws
import Derived.Laws.BitsLemmas
import Derived.OpenShut
import Derived.RowKit
import Derived.SizedLaws
import Derived.Stop.Joined
import Derived.Test.YtoefdnbaklajeaaDoorRows
import Derived.WideShapes
set_option linter.unusedVariables false
set_option linter.unusedSimpArgs false
namespace Go.Proofs.YtoefdnbaklajeaaDoor
open Go
section
variable {C:Ctx} {b:FB} {n:Nat} {l₀ rest:List Oper} {Q:Env→List Deferred→Ro→Own→Prop} {e:Env} {ds:List Deferred} {ρ:Ro} {σ:Own}
end
section
variable {P:Program} {ρ:Ro} {e:Env} {ty t t':TypeId} {x y:Operand} {v:Value}
theorem eqGuard_bool {op:BinOp} {p q:Bool}:eqGuard op t x y (.bool p) (.bool q) = pure ():=by
  cases op <;> rfl
theorem eqGuard_str {op:BinOp} {p q:ByteArray}:eqGuard op t x y (.string p) (.string q) = pure ():=by
  cases op <;> rfl
section
variable {k:IntKind} {p q:Int}
end
end
section
variable {C:Ctx} {b:FB} {n:Nat} {l₀:List Oper} {Q:Env→List Deferred→Ro→Own→Prop} {e:Env} {ds:List Deferred} {ρ ρ₀:Ro} {σ:Own} {pz:List Nat} {fuel:Nat} {listed:Array Bool}
section
variable {d i:Nat} {op:Op} {ty:TypeId} {pos:String} {af:Array Edge} {g:Option (Nat × Bool)} {v:Value} {li:List Bool}
end
end
end Go.Proofs.YtoefdnbaklajeaaDoor

namespace Go.Proofs.YtoefdnbaklajeaaDoor
open Go
section
variable {α:Type} [Dat α] {ρ ρ':Ro}
end
section
variable {P:Program} {ρ:Ro} {σ:Own} {t:TypeId}
end
section
variable {C:Ctx} {b:FB} {n:Nat} {l₀ rest:List Oper} {Q:Env→List Deferred→Ro→Own→Prop} {e:Env} {ds:List Deferred} {ρ:Ro} {σ:Own}
variable {d:Nat} {ty:TypeId} {pos:String} {af:Array Edge} {g:Option (Nat × Bool)} {x y:Operand} {v p:Value} {t:TypeId}
/-- A slice's part. -/
theorem slice_hi {α:Type} [Dat α] {xs:List α} {a:Option Addr} {len cap h:Nat} (hv:Val ρ (.slice a len cap) xs) (hh:h ≤ len):Val ρ (.slice (if cap = 0 then a else a.map (·.add (0 * Dat.k α))) (h - 0) (cap - 0)) (xs.take h):=by
  obtain ⟨a',len',cap',h1,h2,h3,h4,h5⟩:=Cs.1 hv
  cases h1
  refine Cs.2 ⟨a,h,cap,?_,by simp; omega,by omega,by omega,fun i x hx=>?_⟩
  · congr 1
    split
    · rfl
    · cases a with
      | none=>rfl
      | some ad=>simp [Addr.add]
  · rw [List.getElem?_take] at hx
    split at hx
    · exact h5 i x hx
    · cases hx
theorem y_slice_hi {P:Program} {α:Type} [Dat α] {xs:List α} {el:TypeId} {k:IntKind} {q:Int} (h:Nat) (hT:P.underlying t = some (.slice el)) (hE:GoTy P el α) (hx:Af e x = v) (hv:Val ρ v xs) (hy:Af e y = .int k q) (hq:q = (h:Int)) (hh:h ≤ xs.length) :
    ∃ w,Val ρ w (xs.take h)∧Yld P ρ e (.slice t x none (some y) none) ty w:=by
  obtain ⟨a,len,cap,h1,h2,h3,h4,h5⟩:=Cs.1 hv
  subst h1
  refine ⟨_,slice_hi hv (by omega),Mf (s:=Instr.sliceAt t (Af e x) none (some (Af e y)) none) (fun _ _ _ _=>rfl) fun ρ' σ _=>?_⟩
  rw [hx,hy,hq]
  show wpS P ρ' ((underlying t).bind _) σ _
  rw [Ad]
  refine Az hT ?_
  show wpS P ρ' ((underlying t).bind _) σ _
  rw [Ad]
  refine Az hT ?_
  simp only []
  show wpS P ρ' ((Instr.sliceBounds true len cap none (some (.int k h)) none).bind _) σ _
  have hb:Instr.sliceBounds true len cap none (some (.int k (h:Int))) none = pure (0,h,cap):=by
    show (do let m ← pure cap; let hh ← Instr.sliceBound (.int k (h:Int)) m _; let l ← pure 0; pure (l,hh,m):Sem _) = _
    have:Instr.sliceBound (.int k (h:Int)) cap .sliceAcap = pure h:=by
      show (if 0 ≤ (h:Int)∧(h:Int) ≤ cap then pure (h:Int).toNat else _) = _
      rw [if_pos (by omega)]; simp
    show (Instr.sliceBound (.int k (h:Int)) cap .sliceAcap).bind _ = _
    rw [this]; rfl
  rw [hb]
  show wpS P ρ' ((sizeOf el).bind _) σ _
  rw [Ad]
  exact Dw hE.info ⟨rfl,rfl⟩
end
end Go.Proofs.YtoefdnbaklajeaaDoor

namespace Go.Proofs.YtoefdnbaklajeaaDoor
open Go
section
variable {C:Ctx} {b:FB} {n:Nat} {l₀ rest:List Oper} {Q:Env→List Deferred→Ro→Own→Prop} {Q':Hv} {e:Env} {ds:List Deferred} {ρ:Ro} {σ:Own}
variable {d:Nat} {ty:TypeId} {pos:String} {af:Array Edge} {g:Option (Nat × Bool)} {x y:Operand} {v p:Value} {t t':TypeId}
section
variable {P:Program}
theorem y_rem {k:IntKind} {p q z:Int} (hx:Af e x = .int k p) (hy:Af e y = .int k q) (h0:q ≠ 0) (hz:p.tmod q = z):Yld P ρ e (.binOp .rem t x y t') ty (.int k z) :=
  Ju hx hy Dh (by subst hz; simp only [binOp]; rw [if_neg (by simp)]; unfold Op.intDiv; rw [if_neg h0])
theorem y_quo {k:IntKind} {p q z:Int} (hx:Af e x = .int k p) (hy:Af e y = .int k q) (h0:q ≠ 0) (hz:k.wrap (p.tdiv q) = z):Yld P ρ e (.binOp .quo t x y t') ty (.int k z) :=
  Ju hx hy Dh (by subst hz; simp only [binOp]; rw [if_neg (by simp)]; unfold Op.intDiv; rw [if_neg h0])
end
section
variable {P:Program}
theorem y_eqs {p q:ByteArray} (hx:Af e x = .string p) (hy:Af e y = .string q):Yld P ρ e (.binOp .eql t x y t') ty (.bool (p.toList == q.toList)):=Ju hx hy eqGuard_str (by simp only [binOp]; rfl)
end
end
end Go.Proofs.YtoefdnbaklajeaaDoor

namespace Go.Proofs.YtoefdnbaklajeaaDoor
open Go
theorem wpS_eqBool {P:Program} {ρ:Ro} {σ:Own} {t:TypeId} {p q:Bool} (hT:P.underlying t = some .bool) {Q:Bool→Own→Prop} (h:Q (p == q) σ):wpS P ρ (Op.equal t (.bool p) (.bool q)) σ Q:=by
  show wpS P ρ ((underlying t).bind _) σ Q
  rw [Ad]
  exact Az hT h
theorem y_neqb {P:Program} {ρ:Ro} {e:Env} {ty t t':TypeId} {x y:Operand} {p q:Bool} (hT:P.underlying t = some .bool) (hx:Af e x = .bool p) (hy:Af e y = .bool q):Yld P ρ e (.binOp .neq t x y t') ty (.bool (p != q)) :=
  Mf (s:=(do eqGuard .neq t x y (Af e x) (Af e y); binOp .neq t (Af e x) (Af e y))) (fun _ _ _ _=>rfl) fun ρ' σ _=>by
    rw [hx,hy,eqGuard_bool]
    show wpS P ρ' ((Op.equal t (.bool p) (.bool q)).bind _) σ _
    rw [Ad]
    exact wpS_eqBool hT ⟨rfl,rfl⟩
section
variable {mn:Bool} {X:Frame→List Frame→Ro→Own→Cy→Prop} {b:FB} {n:Nat} {e:Env} {ds:List Deferred} {ρ:Ro} {σ:Own} {K:Value→List Deferred→Ro→Own→Prop} {rd:Option Nat} {dd:Option Tmp}
variable {ty:TypeId} {pos:String} {af:Array Edge} {g:Option (Nat × Bool)} {x y:Operand} {v p:Value} {t t':TypeId}
end
end Go.Proofs.YtoefdnbaklajeaaDoor

namespace Go.Proofs.YtoefdnbaklajeaaDoor
open Go Go.WideShapes
theorem reach_lt {n:Nat} (h:n ≤ reachBytes):n < 2 ^ 60:=by unfold reachBytes at h; omega
theorem dec_int {t:TypeId} (ht:Tryd.prog.underlying t = some (.int .i64)) (hc:Tryd.prog.cellsOf t = 1):Apq Int t :=
  ⟨hc,fun H enc W fuel cs x h _=>by
    obtain ⟨n,h1,_,h3⟩:=DataW.trod_int ht h
    refine ⟨n,h1,?_⟩
    simp [Lit.wf,IntKind.min,IntKind.max,IntKind.signed,IntKind.bits] at h3
    exact ⟨by omega,by omega⟩⟩
theorem dec_bool {t:TypeId} (ht:Tryd.prog.underlying t = some .bool) (hc:Tryd.prog.cellsOf t = 1):Apq Bool t :=
  ⟨hc,fun H enc W fuel cs x h _=>by
    obtain ⟨b,h1,_⟩:=DataW.trod_bool ht h
    exact ⟨b,h1⟩⟩
theorem dec_str {t:TypeId} (ht:Tryd.prog.underlying t = some .string) (hc:Tryd.prog.cellsOf t = 1):Apq ByteArray t :=
  ⟨hc,fun H enc W fuel cs x h hw=>by
    obtain ⟨s,h1,h2,_⟩:=DataW.trod_string ht h
    refine ⟨s,h1,reach_lt ?_⟩
    have:=hw s.data.toList.length (by rw [h2]; simp [DataW.weights])
    simpa using this⟩
theorem list_of {α:Type} {P:Nat→α→Prop}:∀ n,(∀ i,i < n→∃ a,P i a)→∃ xs:List α,xs.length = n∧∀ i x,xs[i]? = some x→P i x
  | 0,_=>⟨[],rfl,fun i x h=>by cases h⟩
  | n + 1,h=>by
    obtain ⟨xs,h1,h2⟩:=list_of n fun i hi=>h i (by omega)
    obtain ⟨a,ha⟩:=h n (by omega)
    refine ⟨xs ++ [a],by simp [h1],fun i x hx=>?_⟩
    rcases Nat.lt_or_ge i n with hlt | hge
    · rw [List.getElem?_append_left (by omega)] at hx; exact h2 i x hx
    · have hi:i = n:=by
        have:=(List.getElem?_eq_some_iff.1 hx).1
        simp only [List.length_append,List.length_singleton] at this; omega
      subst hi
      rw [List.getElem?_append_right (by omega),h1,Nat.sub_self] at hx
      cases hx; exact ha
theorem add_0 {a:Addr}:a.add 0 = a:=by simp [Addr.add]
theorem add_none {b off i:Nat}:(⟨b,off,none⟩:Addr).add i = ⟨b,off + i,none⟩:=by
  unfold Addr.add; split
  · rename_i h; subst h; rfl
  · rfl
theorem row_cells {W:World} {a:Addr} {k:Nat} {cs:List Value} (hk:1 ≤ k) (h:W.cells? 0 a k = some cs):∃ b off c t fz rest,a = ⟨b,off,none⟩∧W.heap[b]? = some (.cells c t fz)∧c.toList.drop off = cs ++ rest∧cs.length = k:=by
  unfold World.cells? at h
  rw [if_pos (Nat.zero_le _)] at h
  have hl:=mapM_some_length h
  rw [List.length_range] at hl
  have hg:∀ j,j < k→W.cell? (a.add j) = cs[j]?:=fun j hj=>mapM_some_get h j j (by rw [List.getElem?_range hj])
  obtain ⟨b,off,spot⟩:=a
  have h0:=hg 0 hk
  rw [add_0] at h0
  obtain ⟨v,hv⟩:∃ v,cs[0]? = some v:=⟨_,List.getElem?_eq_getElem (by omega)⟩
  rw [hv] at h0
  unfold World.cell? at h0
  simp only at h0
  cases hb:W.heap[b]? with
  | none=>rw [hb] at h0; cases h0
  | some o =>
    cases o with
    | cells c t fz =>
      rw [hb] at h0
      simp only at h0
      cases spot with
      | some s=>simp at h0
      | none =>
        refine ⟨b,off,c,t,fz,(c.toList.drop off).drop k,rfl,hb,?_,hl⟩
        have e1:(c.toList.drop off).take k = cs:=by
          apply List.ext_getElem?
          intro j
          rw [List.getElem?_take]
          by_cases hj:j < k
          · rw [if_pos hj,← hg j hj,List.getElem?_drop,add_none]
            unfold World.cell?
            simp only [hb]
            simp
          · rw [if_neg hj,List.getElem?_eq_none (by omega)]
        rw [← e1,List.take_append_drop]
    | _=>rw [hb] at h0; cases h0
theorem weightsAll_mem {H:Type} {P:Program} {e:TypeId}:∀ {ds:List (DataW H)} {d:DataW H} {n:Nat},d ∈ ds→n ∈ d.weights P e→n ∈ DataW.weightsAll P e ds
  | [],_,_,h,_=>by cases h
  | d' :: ds,d,n,h,hn=>by
    rw [DataW.weightsAll,List.mem_append]
    rcases List.mem_cons.1 h with rfl | h
    · exact .inl hn
    · exact .inr (weightsAll_mem h hn)
theorem dec_list {α:Type} [Dat α] {t e:TypeId} (ht:Tryd.prog.underlying t = some (.slice e)) (hc:Tryd.prog.cellsOf t = 1) (hb:1 ≤ Tryd.prog.bytesOf e) (hk:1 ≤ Dat.k α) (he:Apq α e):Apq (List α) t :=
  ⟨hc,fun H enc W fuel cs x h hw=>by
    rcases DataW.trod_slice ht h with ⟨h1,_⟩ | ⟨a,len,cap,Av,rest,n,_,h2,h3,_,h5,_,h6,h7,_,_⟩
    · exact ⟨[],_,h1,none,0,0,rfl,rfl,by omega,Nat.le_refl _,fun i x hx=>by cases hx⟩
    · rw [h3] at hw
      simp only [DataW.weights,ht] at hw
      have hlen:len < 2 ^ 60:=by
        have:=hw _ (List.mem_cons_self ..)
        simp only [List.length_map] at this
        refine reach_lt (Nat.le_trans ?_ this)
        rw [h6]
        exact Nat.le_trans (Nat.le_trans (Nat.le_add_right _ _) (Nat.le_of_eq (Nat.mul_one _).symm)) (Nat.mul_le_mul_left _ hb)
      obtain ⟨xs,hx1,hx2⟩:=list_of (P:=fun i (y:α)=>∃ cs,W.cells? 0 (a.add (i * Tryd.prog.cellsOf e)) (Tryd.prog.cellsOf e) = some cs∧Dat.rep (roW W) cs y) len fun i hi=>by
        have h8:=h7 i hi
        obtain ⟨y,hy⟩:∃ y,Av[i]? = some y:=⟨_,List.getElem?_eq_getElem (by omega)⟩
        rw [hy,Option.bind_eq_some_iff] at h8
        obtain ⟨ci,hc1,hc2⟩:=h8
        obtain ⟨z,hz⟩:=he.2 H enc W n ci y hc2 fun m hm=>hw m (List.mem_cons_of_mem _ (List.mem_append_left _ (weightsAll_mem (List.mem_map_of_mem (List.mem_of_getElem? hy)) hm)))
        exact ⟨z,ci,hc1,hz⟩
      refine ⟨xs,_,h2,some a,len,cap,rfl,hx1,hlen,h5,fun i y hy=>?_⟩
      obtain ⟨b',off',rfl⟩:∃ b' off',a = ⟨b',off',none⟩:=by
        have hi:=(List.getElem?_eq_some_iff.1 hy).1
        obtain ⟨y0,hy0⟩:∃ y0,xs[0]? = some y0:=⟨_,List.getElem?_eq_getElem (by omega)⟩
        obtain ⟨ci,hc1,_⟩:=hx2 0 y0 hy0
        rw [he.1,Nat.zero_mul,add_0] at hc1
        obtain ⟨b,off,_,_,_,_,h8,_⟩:=row_cells hk hc1
        exact ⟨b,off,h8⟩
      obtain ⟨ci,hc1,hc2⟩:=hx2 i y hy
      rw [he.1,add_none] at hc1
      obtain ⟨b,off,c,t',fz,rs,h8,h9,h10,_⟩:=row_cells hk hc1
      simp only [Addr.mk.injEq,and_true] at h8
      obtain ⟨rfl,rfl⟩:=h8
      exact ⟨b',off',rfl,b',_,c,t',fz,ci,rs,rfl,Vs h9,hc2,h10⟩⟩
theorem cut_at (cs:List Value) (a k:Nat):cs.drop a = (cs.drop a).take k ++ cs.drop (a + k):=by rw [← List.drop_drop,List.take_append_drop]
theorem field_at {H:Type} {enc:TypeId × Value→H} {W:World} {n:Nat} {cs:List Value} {xs:List (DataW H × List MemPlace)} {fs:Array Field} {t:TypeId} (ht:Tryd.prog.underlying t = some (.struct fs)) (hl:xs.length = fs.size) (h:∀ (i:Nat) (f:Field),fs[i]? = some f→DataW.trod enc Tryd.prog W 0 (fun _=>true) true n f.type ((cs.drop f.offset).take (Tryd.prog.cellsOf f.type)) = xs[i]?)
    (hw:∀ m ∈ (DataW.agg (xs.map (·.1)):DataW H).weights Tryd.prog t,m ≤ reachBytes) {α:Type} [Dat α] {i ft off:Nat} {f:Field} (hf:fs[i]? = some f) (h1:f.type = ft) (h2:f.offset = off) (hd:Apq α ft):∃ a:α,Dat.rep (roW W) ((cs.drop off).take (Dat.k α)) a:=by
  subst h1 h2
  have hi:=(Array.getElem?_eq_some_iff.1 hf).1
  obtain ⟨y,hy⟩:∃ y,xs[i]? = some y:=⟨_,List.getElem?_eq_getElem (by omega)⟩
  have h3:=h i f hf
  rw [hy,hd.1] at h3
  refine hd.2 H enc W n _ y h3 fun m hm=>hw m ?_
  simp only [DataW.weights,ht]
  exact DataW.weights_mem_each (j:=i) (t:=f.type) (d:=y.1) (by simp [Array.getElem?_toList,hf]) (by simp [hy]) m hm
theorem dec108:Apq FTest 108:=⟨by kernel_rfl,fun H enc W fuel cs x h hw=>by
  obtain ⟨xs,n,_,rfl,hcl,hl,hf⟩:=DataW.trod_struct Tryd.underlying108 h
  rw [show Tryd.prog.cellsOf 108 = 3 from by kernel_rfl] at hcl
  obtain ⟨a0,r0⟩:=field_at (i:=0) Tryd.underlying108 hl hf hw rfl rfl (show _ = 0 from rfl) (dec_str Tryd.underlying9 (by kernel_rfl))
  obtain ⟨a1,r1⟩:=field_at (i:=1) Tryd.underlying108 hl hf hw rfl rfl (show _ = 1 from rfl) (dec_list Tryd.underlying46 (by kernel_rfl) (Nat.le_of_ble_eq_true (by kernel_rfl)) (by decide) (dec_int Tryd.underlying53 (by kernel_rfl)))
  obtain ⟨a2,r2⟩:=field_at (i:=2) Tryd.underlying108 hl hf hw rfl rfl (show _ = 2 from rfl) (dec_bool Tryd.underlying4 (by kernel_rfl))
  refine ⟨⟨a0,a1,a2⟩,?_⟩
  have e0:cs = cs.drop 0:=rfl
  rw [e0]
  exact ⟨(cs.drop 0).take 1,cs.drop 1,(cut_at cs 0 1).trans (by rfl),r0,⟨(cs.drop 1).take 1,cs.drop 2,(cut_at cs 1 1).trans (by rfl),r1,(show Dat.rep (roW W) (cs.drop 2) a2 from by (have:=r2; rw [List.take_of_length_le (by rw [List.length_drop,hcl]; decide)] at this; exact this))⟩⟩⟩
theorem dec40:Apq Lab 40:=⟨by kernel_rfl,fun H enc W fuel cs x h hw=>by
  obtain ⟨xs,n,_,rfl,hcl,hl,hf⟩:=DataW.trod_struct Tryd.underlying40 h
  rw [show Tryd.prog.cellsOf 40 = 3 from by kernel_rfl] at hcl
  obtain ⟨a0,r0⟩:=field_at (i:=0) Tryd.underlying40 hl hf hw rfl rfl (show _ = 0 from rfl) (dec_list Tryd.underlying22 (by kernel_rfl) (Nat.le_of_ble_eq_true (by kernel_rfl)) (by decide) (dec_str Tryd.underlying9 (by kernel_rfl)))
  obtain ⟨a1,r1⟩:=field_at (i:=1) Tryd.underlying40 hl hf hw rfl rfl (show _ = 1 from rfl) (dec_int Tryd.underlying3 (by kernel_rfl))
  obtain ⟨a2,r2⟩:=field_at (i:=2) Tryd.underlying40 hl hf hw rfl rfl (show _ = 2 from rfl) (dec_list Tryd.underlying38 (by kernel_rfl) (Nat.le_of_ble_eq_true (by kernel_rfl)) (by decide) dec108)
  refine ⟨⟨a0,a1,a2⟩,?_⟩
  have e0:cs = cs.drop 0:=rfl
  rw [e0]
  exact ⟨(cs.drop 0).take 1,cs.drop 1,(cut_at cs 0 1).trans (by rfl),r0,⟨(cs.drop 1).take 1,cs.drop 2,(cut_at cs 1 1).trans (by rfl),r1,(show Dat.rep (roW W) (cs.drop 2) a2 from by (have:=r2; rw [List.take_of_length_le (by rw [List.length_drop,hcl]; decide)] at this; exact this))⟩⟩⟩
theorem dec43:Apq Found 43:=⟨by kernel_rfl,fun H enc W fuel cs x h hw=>by
  obtain ⟨xs,n,_,rfl,hcl,hl,hf⟩:=DataW.trod_struct Tryd.underlying43 h
  rw [show Tryd.prog.cellsOf 43 = 2 from by kernel_rfl] at hcl
  obtain ⟨a0,r0⟩:=field_at (i:=0) Tryd.underlying43 hl hf hw rfl rfl (show _ = 0 from rfl) (dec_int Tryd.underlying3 (by kernel_rfl))
  obtain ⟨a1,r1⟩:=field_at (i:=1) Tryd.underlying43 hl hf hw rfl rfl (show _ = 1 from rfl) (dec_bool Tryd.underlying4 (by kernel_rfl))
  refine ⟨⟨a0,a1⟩,?_⟩
  have e0:cs = cs.drop 0:=rfl
  rw [e0]
  exact ⟨(cs.drop 0).take 1,cs.drop 1,(cut_at cs 0 1).trans (by rfl),r0,(show Dat.rep (roW W) (cs.drop 1) a1 from by (have:=r1; rw [List.take_of_length_le (by rw [List.length_drop,hcl]; decide)] at this; exact this))⟩⟩
end Go.Proofs.YtoefdnbaklajeaaDoor

namespace Go.Proofs.YtoefdnbaklajeaaDoor
open Go Go.WideShapes Go.ChangeShapes Go.RowKit Go.Conc
section
variable {H:Type} {enc:TypeId × Value→H} {W:World} {r:Reach} {base t:Nat} {v:Value} {d:DataW H} {p:List MemPlace}
end
theorem weights_at {H:Type} {P:Program} {ts:List TypeId} {ds:List (DataW H)} (h:(DataW.weightsEach P ts ds).all (· ≤ reachBytes) = true) {j:Nat} {t:TypeId} {d:DataW H} (ht:ts[j]? = some t) (hd:ds[j]? = some d):∀ n ∈ d.weights P t,n ≤ reachBytes:=fun n hn=>by
  have:=List.all_eq_true.1 h _ (DataW.weights_mem_each ht hd n hn)
  simpa using this
end Go.Proofs.YtoefdnbaklajeaaDoor

namespace Go.Proofs.YtoefdnbaklajeaaDoor
open Go
theorem okAll_t {s:ByteArray}:(List.range s.size).all (Alz s) = true↔∀ j,j < s.size→Alz s j = true:=by simp
theorem okAll_f {s:ByteArray} {j:Nat} (h:j < s.size) (h0:Alz s j = false):(List.range s.size).all (Alz s) = false:=by
  cases hh:(List.range s.size).all (Alz s) with
  | false=>rfl
  | true=>rw [okAll_t.1 hh j h] at h0; cases h0
end Go.Proofs.YtoefdnbaklajeaaDoor

namespace Go.Proofs.YtoefdnbaklajeaaDoor
open Go
set_option maxRecDepth 100000 in
theorem c_In {mn:Bool} {X:Frame→List Frame→Ro→Own→Cy→Prop} {ρ:Ro} {σ:Own} {n low high:Int} :CallsH (CX mn X) 79 #[(iV (n)),(iV (low)),(iV (high))] ρ σ (fun w ρ' σ'=>ρ' = ρ∧σ' = σ∧w = (.bool (inR n low high))):=by
 refine Bh (n:=15) (args:=[(iV (n)),(iV (low)),(iV (high))]) [6] Tryd.func79 rfl rfl rfl rfl fun Q hret hnor=>?_
 refine w_q rfl rfl fun K1 k1=>?_
 refine l_A (.bool (false)) rfl rfl ?_
 apply Ac
 apply k1
 refine w_q rfl rfl fun K2 k2=>?_
 refine l_M (iV (low)) rfl rfl ?_
 refine l_M (iV (n)) rfl rfl ?_
 refine Aa rfl (Tx (p:=low) (q:=n) rfl rfl) ?_
 refine l_M (.bool (decide (low ≤ n))) rfl rfl ?_
 refine Cn (decide (low ≤ n)) (fun b3=>?_) (fun b3=>?_)
 ·have q3:=of_decide_eq_true b3
  refine l_M (iV (n)) (Ar rfl rfl rfl b3) rfl ?_
  refine l_M (iV (high)) (Ar rfl rfl rfl b3) rfl ?_
  refine Aa (Ar rfl rfl rfl b3) (Tx (p:=n) (q:=high) rfl rfl) ?_
  refine Aa rfl (Bt rfl b3 (v:=(.bool (decide (n ≤ high)))) rfl) ?_
  refine l_A (.bool (decide (n ≤ high))) rfl rfl ?_
  apply Ac
  apply k2
  refine Aq ?_
  refine hret _ _ _ ?_
  refine ⟨rfl,rfl,Eq.trans (b:=(.bool (decide (n ≤ high)))) rfl ?_⟩
  simp only [inR,b3,Bool.true_and,Bool.false_and,Bool.and_true,Bool.and_false,Bool.true_or,Bool.false_or,Bool.or_true,Bool.or_false,Bool.not_true,Bool.not_false]
 have q3:=of_decide_eq_false b3
 refine Ap (Bl rfl rfl rfl b3) ?_
 refine Ap (Bl rfl rfl rfl b3) ?_
 refine Ap (Bl rfl rfl rfl b3) ?_
 refine Aa rfl (Bm rfl b3 (v:=(.bool (false))) rfl) ?_
 refine l_A (.bool (false)) rfl rfl ?_
 apply Ac
 apply k2
 refine Aq ?_
 refine hret _ _ _ ?_
 refine ⟨rfl,rfl,Eq.trans (b:=(.bool (false))) rfl ?_⟩
 simp only [inR,b3,Bool.true_and,Bool.false_and,Bool.and_true,Bool.and_false,Bool.true_or,Bool.false_or,Bool.or_true,Bool.or_false,Bool.not_true,Bool.not_false]
set_option maxRecDepth 100000 in
theorem c_Name {mn:Bool} {X:Frame→List Frame→Ro→Own→Cy→Prop} {ρ:Ro} {σ:Own} {s:ByteArray} :CallsH (CX mn X) 78 #[(.string (s))] ρ σ (fun w ρ' σ'=>ρ' = ρ∧σ' = σ∧w = (.bool (Hi s))):=by
 refine Bh (n:=46) (args:=[(.string (s))]) [2] Tryd.func78 rfl rfl rfl rfl fun Q hret hnor=>?_
 refine w_q rfl rfl fun K1 k1=>?_
 refine l_A (.bool (false)) rfl rfl ?_
 apply Ac
 apply k1
 refine Ai fun K2 k2=>?_
 refine w_q rfl rfl fun K3 k3=>?_
 refine l_M (.string (s)) rfl rfl ?_
 refine Aa rfl (Afb Tryd.underlying9 (s:=s) rfl) ?_
 refine Ae rfl (Bn (vs:=[(iV (((s.size:Nat):Int))),(iV (1)),(iV (14))]) (v:=(.bool (inR (((s.size:Nat):Int)) 1 14))) (c_In) Tryd.func79 rfl rfl ⟨rfl,rfl,rfl,trivial⟩ ?_)
 refine Aa rfl (Ix (k:=inR (((s.size:Nat):Int)) 1 14) rfl) ?_
 refine l_M (.bool (!(inR (((s.size:Nat):Int)) 1 14))) rfl rfl ?_
 refine Cn (!(inR (((s.size:Nat):Int)) 1 14)) (fun b4=>?_) (fun b4=>?_)
 ·have b5:=not_eq_t b4
  have q5:=Ui.1 b5
  refine Ap (Bl rfl rfl rfl b4) ?_
  refine Ap (Bl rfl rfl rfl b4) ?_
  refine Ap (Bl rfl rfl rfl b4) ?_
  refine Aa rfl (Bt rfl b4 (v:=(.bool (true))) rfl) ?_
  refine l_M (.bool (true)) rfl rfl ?_
  refine Ap (Bl rfl rfl rfl rfl) ?_
  refine Ap (Bl rfl rfl rfl rfl) ?_
  refine Ap (Bl rfl rfl rfl rfl) ?_
  refine Aa rfl (Bt rfl rfl (v:=(.bool (true))) rfl) ?_
  apply Ac
  apply k3
  refine Co rfl rfl ?_
  refine w_q rfl rfl fun K6 k6=>?_
  refine l_A (.bool (false)) rfl rfl ?_
  apply Ac
  apply k6
  refine Aq ?_
  refine hret _ _ _ ?_
  refine ⟨rfl,rfl,Eq.trans (b:=(.bool (false))) rfl ?_⟩
  simp only [Hi,Pu,b4,b5,Bool.true_and,Bool.false_and,Bool.and_true,Bool.and_false,Bool.true_or,Bool.false_or,Bool.or_true,Bool.or_false,Bool.not_true,Bool.not_false]
 have b7:=not_eq_f b4
 have q7:=Ge.1 b7
 refine l_M (.string (s)) (Ar rfl rfl rfl b4) rfl ?_
 obtain ⟨c8,hc8⟩:=Alh (s:=s) (i:=0) (by omega)
 refine Aa (Ar rfl rfl rfl b4) (Aaw 0 c8 Tryd.underlying9 rfl (q:=0) rfl rfl hc8) ?_
 refine Aa (Ar rfl rfl rfl b4) (Da (p:=((c8.toNat:Nat):Int)) (q:=97) rfl rfl) ?_
 refine Aa rfl (Bm rfl b4 (v:=(.bool (decide (((c8.toNat:Nat):Int) < 97)))) rfl) ?_
 refine l_M (.bool (decide (((c8.toNat:Nat):Int) < 97))) rfl rfl ?_
 refine Cn (decide (((c8.toNat:Nat):Int) < 97)) (fun b9=>?_) (fun b9=>?_)
 ·have q9:=of_decide_eq_true b9
  refine Ap (Bl rfl rfl rfl b9) ?_
  refine Ap (Bl rfl rfl rfl b9) ?_
  refine Ap (Bl rfl rfl rfl b9) ?_
  refine Aa rfl (Bt rfl b9 (v:=(.bool (true))) rfl) ?_
  apply Ac
  apply k3
  refine Co rfl rfl ?_
  refine w_q rfl rfl fun K10 k10=>?_
  refine l_A (.bool (false)) rfl rfl ?_
  apply Ac
  apply k10
  refine Aq ?_
  refine hret _ _ _ ?_
  refine ⟨rfl,rfl,Eq.trans (b:=(.bool (false))) rfl ?_⟩
  simp only [Hi,Pu,hc8,b4,b7,b9,Bool.true_and,Bool.false_and,Bool.and_true,Bool.and_false,Bool.true_or,Bool.false_or,Bool.or_true,Bool.or_false,Bool.not_true,Bool.not_false]
 have q9:=of_decide_eq_false b9
 refine l_M (.string (s)) (Ar rfl rfl rfl b9) rfl ?_
 refine Aa (Ar rfl rfl rfl b9) (Aaw 0 c8 Tryd.underlying9 rfl (q:=0) rfl rfl hc8) ?_
 refine Aa (Ar rfl rfl rfl b9) (Gk (p:=((c8.toNat:Nat):Int)) (q:=122) rfl rfl) ?_
 refine Aa rfl (Bm rfl b9 (v:=(.bool (decide (((c8.toNat:Nat):Int) > 122)))) rfl) ?_
 apply Ac
 apply k3
 refine As (t:=decide (((c8.toNat:Nat):Int) > 122)) rfl (fun b12=>?_) (fun b12=>?_)
 ·have q12:=of_decide_eq_true b12
  refine w_q rfl rfl fun K13 k13=>?_
  refine l_A (.bool (false)) rfl rfl ?_
  apply Ac
  apply k13
  refine Aq ?_
  refine hret _ _ _ ?_
  refine ⟨rfl,rfl,Eq.trans (b:=(.bool (false))) rfl ?_⟩
  simp only [Hi,Pu,hc8,b4,b7,b9,b12,Bool.true_and,Bool.false_and,Bool.and_true,Bool.and_false,Bool.true_or,Bool.false_or,Bool.or_true,Bool.or_false,Bool.not_true,Bool.not_false]
 have q12:=of_decide_eq_false b12
 refine Al ?_
 apply k2
 refine Ai fun K14 k14=>?_
 refine w_q rfl rfl fun K15 k15=>?_
 refine l_A (iV (0)) rfl rfl ?_
 apply Ac
 apply k15
 refine Ao ?_
 refine Cc (fun mm ee dd ρ' σ'=>∃ (i:Nat),(s.size - i) = mm∧[] = dd∧ρ = ρ'∧σ = σ'∧ee 0 = (.string (s))∧ee 3 = (iV ((i:Int)))∧(i ≤ s.size)∧(∀ j,j < i→Alz s j = true)∧True) (m:=_) ⟨0,rfl,rfl,rfl,rfl,rfl,rfl,(Nat.zero_le _),(fun j h=>absurd h (Nat.not_lt_zero _)),trivial⟩ ?_
 rintro m16 e16 _ _ _ ⟨i,rfl,rfl,rfl,rfl,h16_0,h16_3,p16_0,p16_1,_⟩
 refine Ai fun K17 k17=>?_
 refine w_q rfl rfl fun K18 k18=>?_
 refine Aa rfl (Ah (v:=(iV ((i:Int)))) h16_3) ?_
 refine Aa rfl (Ah (v:=(.string (s))) h16_0) ?_
 refine Aa rfl (Afb Tryd.underlying9 (s:=s) rfl) ?_
 refine Aa rfl (Da (p:=(i:Int)) (q:=((s.size:Nat):Int)) rfl rfl) ?_
 apply Ac
 apply k18
 refine As (t:=decide ((i:Int) < ((s.size:Nat):Int))) rfl (fun b19=>?_) (fun b19=>?_)
 ·have q19:=of_decide_eq_true b19
  refine Al ?_
  apply k17
  refine Ai fun K20 k20=>?_
  refine Ao ?_
  refine w_q rfl rfl fun K21 k21=>?_
  refine Aa rfl (Ah (v:=(.string (s))) h16_0) ?_
  refine Aa rfl (Ah (v:=(iV ((i:Int)))) h16_3) ?_
  obtain ⟨c22,hc22⟩:=Alh (s:=s) (i:=i) (by omega)
  refine Aa rfl (Aaw i c22 Tryd.underlying9 rfl (q:=(i:Int)) rfl rfl hc22) ?_
  refine l_A (.int .u8 (((c22.toNat:Nat):Int))) rfl rfl ?_
  apply Ac
  apply k21
  refine w_q rfl rfl fun K23 k23=>?_
  refine l_M (.int .u8 (((c22.toNat:Nat):Int))) rfl rfl ?_
  refine Aa rfl (Da (p:=((c22.toNat:Nat):Int)) (q:=97) rfl rfl) ?_
  refine l_M (.bool (decide (((c22.toNat:Nat):Int) < 97))) rfl rfl ?_
  refine Cn (decide (((c22.toNat:Nat):Int) < 97)) (fun b24=>?_) (fun b24=>?_)
  ·have q24:=of_decide_eq_true b24
   refine Ap (Bl rfl rfl rfl b24) ?_
   refine Ap (Bl rfl rfl rfl b24) ?_
   refine Aa rfl (Bt rfl b24 (v:=(.bool (true))) rfl) ?_
   refine l_M (.bool (true)) rfl rfl ?_
   refine l_M (.int .u8 (((c22.toNat:Nat):Int))) (Ar rfl rfl rfl rfl) rfl ?_
   refine Aa (Ar rfl rfl rfl rfl) (Da (p:=((c22.toNat:Nat):Int)) (q:=48) rfl rfl) ?_
   refine l_M (.bool (decide (((c22.toNat:Nat):Int) < 48))) (Ar rfl rfl rfl rfl) rfl ?_
   refine Cn (decide (((c22.toNat:Nat):Int) < 48)) (fun b25=>?_) (fun b25=>?_)
   ·have q25:=of_decide_eq_true b25
    refine Ap (Bl rfl rfl rfl b25) ?_
    refine Ap (Bl rfl rfl rfl b25) ?_
    refine Aa (Ar rfl rfl rfl rfl) (Bt rfl b25 (v:=(.bool (true))) rfl) ?_
    refine Aa rfl (Bt rfl rfl (v:=(.bool (true))) rfl) ?_
    refine l_M (.bool (true)) rfl rfl ?_
    refine l_M (.int .u8 (((c22.toNat:Nat):Int))) (Ar rfl rfl rfl rfl) rfl ?_
    refine Aa (Ar rfl rfl rfl rfl) (Dg (p:=((c22.toNat:Nat):Int)) (q:=45) rfl rfl) ?_
    refine Aa rfl (Bt rfl rfl (v:=(.bool (((c22.toNat:Nat):Int) != 45))) rfl) ?_
    apply Ac
    apply k23
    refine As (t:=((c22.toNat:Nat):Int) != 45) rfl (fun b26=>?_) (fun b26=>?_)
    ·have q26:=Mb b26
     refine w_q rfl rfl fun K27 k27=>?_
     refine l_A (.bool (false)) rfl rfl ?_
     apply Ac
     apply k27
     refine Aq ?_
     refine hret _ _ _ ?_
     refine ⟨rfl,rfl,Eq.trans (b:=(.bool (false))) rfl ?_⟩
     have hbad:Alz s i = false:=by simp only [Alz,hc22,Pk,b4,b7,b9,b12,b19,b24,b25,b26,Bool.true_and,Bool.false_and,Bool.and_true,Bool.and_false,Bool.true_or,Bool.false_or,Bool.or_true,Bool.or_false,Bool.not_true,Bool.not_false]
     have hall:=okAll_f (by omega) hbad
     simp only [Hi,hall,b4,b7,b9,b12,b19,b24,b25,b26,Bool.true_and,Bool.false_and,Bool.and_true,Bool.and_false,Bool.true_or,Bool.false_or,Bool.or_true,Bool.or_false,Bool.not_true,Bool.not_false]
    have q26:=Jh b26
    refine Al ?_
    apply k20
    refine Ag rfl rfl ?_
    refine Aa rfl (Ah (v:=(iV ((i:Int)))) h16_3) ?_
    refine Aa rfl (Br (p:=(i:Int)) (q:=1) rfl rfl (z:=(((i + 1):Nat):Int)) (Bo (by first | rfl | omega | (push_cast; rfl)) (by omega) (by omega))) ?_
    refine l_A (iV ((((i + 1):Nat):Int))) rfl rfl ?_
    apply Ac
    refine ⟨_,?_,((i + 1)),rfl,rfl,rfl,rfl,h16_0,rfl,(by omega),(Ef p16_1 (by simp only [Alz,hc22,Pk,b4,b7,b9,b12,b19,b24,b25,b26,Bool.true_and,Bool.false_and,Bool.and_true,Bool.and_false,Bool.true_or,Bool.false_or,Bool.or_true,Bool.or_false,Bool.not_true,Bool.not_false])),trivial⟩
    omega
   have q25:=of_decide_eq_false b25
   refine l_M (.int .u8 (((c22.toNat:Nat):Int))) (Ar rfl rfl rfl b25) rfl ?_
   refine Aa (Ar rfl rfl rfl b25) (Gk (p:=((c22.toNat:Nat):Int)) (q:=57) rfl rfl) ?_
   refine Aa (Ar rfl rfl rfl rfl) (Bm rfl b25 (v:=(.bool (decide (((c22.toNat:Nat):Int) > 57)))) rfl) ?_
   refine Aa rfl (Bt rfl rfl (v:=(.bool (decide (((c22.toNat:Nat):Int) > 57)))) rfl) ?_
   refine l_M (.bool (decide (((c22.toNat:Nat):Int) > 57))) rfl rfl ?_
   refine Cn (decide (((c22.toNat:Nat):Int) > 57)) (fun b28=>?_) (fun b28=>?_)
   ·have q28:=of_decide_eq_true b28
    refine l_M (.int .u8 (((c22.toNat:Nat):Int))) (Ar rfl rfl rfl b28) rfl ?_
    refine Aa (Ar rfl rfl rfl b28) (Dg (p:=((c22.toNat:Nat):Int)) (q:=45) rfl rfl) ?_
    refine Aa rfl (Bt rfl b28 (v:=(.bool (((c22.toNat:Nat):Int) != 45))) rfl) ?_
    apply Ac
    apply k23
    refine As (t:=((c22.toNat:Nat):Int) != 45) rfl (fun b29=>?_) (fun b29=>?_)
    ·have q29:=Mb b29
     refine w_q rfl rfl fun K30 k30=>?_
     refine l_A (.bool (false)) rfl rfl ?_
     apply Ac
     apply k30
     refine Aq ?_
     refine hret _ _ _ ?_
     refine ⟨rfl,rfl,Eq.trans (b:=(.bool (false))) rfl ?_⟩
     have hbad:Alz s i = false:=by simp only [Alz,hc22,Pk,b4,b7,b9,b12,b19,b24,b25,b28,b29,Bool.true_and,Bool.false_and,Bool.and_true,Bool.and_false,Bool.true_or,Bool.false_or,Bool.or_true,Bool.or_false,Bool.not_true,Bool.not_false]
     have hall:=okAll_f (by omega) hbad
     simp only [Hi,hall,b4,b7,b9,b12,b19,b24,b25,b28,b29,Bool.true_and,Bool.false_and,Bool.and_true,Bool.and_false,Bool.true_or,Bool.false_or,Bool.or_true,Bool.or_false,Bool.not_true,Bool.not_false]
    have q29:=Jh b29
    refine Al ?_
    apply k20
    refine Ag rfl rfl ?_
    refine Aa rfl (Ah (v:=(iV ((i:Int)))) h16_3) ?_
    refine Aa rfl (Br (p:=(i:Int)) (q:=1) rfl rfl (z:=(((i + 1):Nat):Int)) (Bo (by first | rfl | omega | (push_cast; rfl)) (by omega) (by omega))) ?_
    refine l_A (iV ((((i + 1):Nat):Int))) rfl rfl ?_
    apply Ac
    refine ⟨_,?_,((i + 1)),rfl,rfl,rfl,rfl,h16_0,rfl,(by omega),(Ef p16_1 (by simp only [Alz,hc22,Pk,b4,b7,b9,b12,b19,b24,b25,b28,b29,Bool.true_and,Bool.false_and,Bool.and_true,Bool.and_false,Bool.true_or,Bool.false_or,Bool.or_true,Bool.or_false,Bool.not_true,Bool.not_false])),trivial⟩
    omega
   have q28:=of_decide_eq_false b28
   refine Ap (Bl rfl rfl rfl b28) ?_
   refine Ap (Bl rfl rfl rfl b28) ?_
   refine Aa rfl (Bm rfl b28 (v:=(.bool (false))) rfl) ?_
   apply Ac
   apply k23
   refine Cg rfl rfl ?_
   refine Al ?_
   apply k20
   refine Ag rfl rfl ?_
   refine Aa rfl (Ah (v:=(iV ((i:Int)))) h16_3) ?_
   refine Aa rfl (Br (p:=(i:Int)) (q:=1) rfl rfl (z:=(((i + 1):Nat):Int)) (Bo (by first | rfl | omega | (push_cast; rfl)) (by omega) (by omega))) ?_
   refine l_A (iV ((((i + 1):Nat):Int))) rfl rfl ?_
   apply Ac
   refine ⟨_,?_,((i + 1)),rfl,rfl,rfl,rfl,h16_0,rfl,(by omega),(Ef p16_1 (by simp only [Alz,hc22,Pk,b4,b7,b9,b12,b19,b24,b25,b28,Bool.true_and,Bool.false_and,Bool.and_true,Bool.and_false,Bool.true_or,Bool.false_or,Bool.or_true,Bool.or_false,Bool.not_true,Bool.not_false])),trivial⟩
   omega
  have q24:=of_decide_eq_false b24
  refine l_M (.int .u8 (((c22.toNat:Nat):Int))) (Ar rfl rfl rfl b24) rfl ?_
  refine Aa (Ar rfl rfl rfl b24) (Gk (p:=((c22.toNat:Nat):Int)) (q:=122) rfl rfl) ?_
  refine Aa rfl (Bm rfl b24 (v:=(.bool (decide (((c22.toNat:Nat):Int) > 122)))) rfl) ?_
  refine l_M (.bool (decide (((c22.toNat:Nat):Int) > 122))) rfl rfl ?_
  refine Cn (decide (((c22.toNat:Nat):Int) > 122)) (fun b31=>?_) (fun b31=>?_)
  ·have q31:=of_decide_eq_true b31
   refine l_M (.int .u8 (((c22.toNat:Nat):Int))) (Ar rfl rfl rfl b31) rfl ?_
   refine Aa (Ar rfl rfl rfl b31) (Da (p:=((c22.toNat:Nat):Int)) (q:=48) rfl rfl) ?_
   refine l_M (.bool (decide (((c22.toNat:Nat):Int) < 48))) (Ar rfl rfl rfl b31) rfl ?_
   refine Cn (decide (((c22.toNat:Nat):Int) < 48)) (fun b32=>?_) (fun b32=>?_)
   ·have q32:=of_decide_eq_true b32
    refine Ap (Bl rfl rfl rfl b32) ?_
    refine Ap (Bl rfl rfl rfl b32) ?_
    refine Aa (Ar rfl rfl rfl b31) (Bt rfl b32 (v:=(.bool (true))) rfl) ?_
    refine Aa rfl (Bt rfl b31 (v:=(.bool (true))) rfl) ?_
    refine l_M (.bool (true)) rfl rfl ?_
    refine l_M (.int .u8 (((c22.toNat:Nat):Int))) (Ar rfl rfl rfl rfl) rfl ?_
    refine Aa (Ar rfl rfl rfl rfl) (Dg (p:=((c22.toNat:Nat):Int)) (q:=45) rfl rfl) ?_
    refine Aa rfl (Bt rfl rfl (v:=(.bool (((c22.toNat:Nat):Int) != 45))) rfl) ?_
    apply Ac
    apply k23
    refine As (t:=((c22.toNat:Nat):Int) != 45) rfl (fun b33=>?_) (fun b33=>?_)
    ·have q33:=Mb b33
     refine w_q rfl rfl fun K34 k34=>?_
     refine l_A (.bool (false)) rfl rfl ?_
     apply Ac
     apply k34
     refine Aq ?_
     refine hret _ _ _ ?_
     refine ⟨rfl,rfl,Eq.trans (b:=(.bool (false))) rfl ?_⟩
     have hbad:Alz s i = false:=by simp only [Alz,hc22,Pk,b4,b7,b9,b12,b19,b24,b31,b32,b33,Bool.true_and,Bool.false_and,Bool.and_true,Bool.and_false,Bool.true_or,Bool.false_or,Bool.or_true,Bool.or_false,Bool.not_true,Bool.not_false]
     have hall:=okAll_f (by omega) hbad
     simp only [Hi,hall,b4,b7,b9,b12,b19,b24,b31,b32,b33,Bool.true_and,Bool.false_and,Bool.and_true,Bool.and_false,Bool.true_or,Bool.false_or,Bool.or_true,Bool.or_false,Bool.not_true,Bool.not_false]
    have q33:=Jh b33
    refine Al ?_
    apply k20
    refine Ag rfl rfl ?_
    refine Aa rfl (Ah (v:=(iV ((i:Int)))) h16_3) ?_
    refine Aa rfl (Br (p:=(i:Int)) (q:=1) rfl rfl (z:=(((i + 1):Nat):Int)) (Bo (by first | rfl | omega | (push_cast; rfl)) (by omega) (by omega))) ?_
    refine l_A (iV ((((i + 1):Nat):Int))) rfl rfl ?_
    apply Ac
    refine ⟨_,?_,((i + 1)),rfl,rfl,rfl,rfl,h16_0,rfl,(by omega),(Ef p16_1 (by simp only [Alz,hc22,Pk,b4,b7,b9,b12,b19,b24,b31,b32,b33,Bool.true_and,Bool.false_and,Bool.and_true,Bool.and_false,Bool.true_or,Bool.false_or,Bool.or_true,Bool.or_false,Bool.not_true,Bool.not_false])),trivial⟩
    omega
   have q32:=of_decide_eq_false b32
   refine l_M (.int .u8 (((c22.toNat:Nat):Int))) (Ar rfl rfl rfl b32) rfl ?_
   refine Aa (Ar rfl rfl rfl b32) (Gk (p:=((c22.toNat:Nat):Int)) (q:=57) rfl rfl) ?_
   refine Aa (Ar rfl rfl rfl b31) (Bm rfl b32 (v:=(.bool (decide (((c22.toNat:Nat):Int) > 57)))) rfl) ?_
   refine Aa rfl (Bt rfl b31 (v:=(.bool (decide (((c22.toNat:Nat):Int) > 57)))) rfl) ?_
   refine l_M (.bool (decide (((c22.toNat:Nat):Int) > 57))) rfl rfl ?_
   refine Cn (decide (((c22.toNat:Nat):Int) > 57)) (fun b35=>?_) (fun b35=>?_)
   ·have q35:=of_decide_eq_true b35
    refine l_M (.int .u8 (((c22.toNat:Nat):Int))) (Ar rfl rfl rfl b35) rfl ?_
    refine Aa (Ar rfl rfl rfl b35) (Dg (p:=((c22.toNat:Nat):Int)) (q:=45) rfl rfl) ?_
    refine Aa rfl (Bt rfl b35 (v:=(.bool (((c22.toNat:Nat):Int) != 45))) rfl) ?_
    apply Ac
    apply k23
    refine As (t:=((c22.toNat:Nat):Int) != 45) rfl (fun b36=>?_) (fun b36=>?_)
    ·have q36:=Mb b36
     refine w_q rfl rfl fun K37 k37=>?_
     refine l_A (.bool (false)) rfl rfl ?_
     apply Ac
     apply k37
     refine Aq ?_
     refine hret _ _ _ ?_
     refine ⟨rfl,rfl,Eq.trans (b:=(.bool (false))) rfl ?_⟩
     have hbad:Alz s i = false:=by simp only [Alz,hc22,Pk,b4,b7,b9,b12,b19,b24,b31,b32,b35,b36,Bool.true_and,Bool.false_and,Bool.and_true,Bool.and_false,Bool.true_or,Bool.false_or,Bool.or_true,Bool.or_false,Bool.not_true,Bool.not_false]
     have hall:=okAll_f (by omega) hbad
     simp only [Hi,hall,b4,b7,b9,b12,b19,b24,b31,b32,b35,b36,Bool.true_and,Bool.false_and,Bool.and_true,Bool.and_false,Bool.true_or,Bool.false_or,Bool.or_true,Bool.or_false,Bool.not_true,Bool.not_false]
    have q36:=Jh b36
    refine Al ?_
    apply k20
    refine Ag rfl rfl ?_
    refine Aa rfl (Ah (v:=(iV ((i:Int)))) h16_3) ?_
    refine Aa rfl (Br (p:=(i:Int)) (q:=1) rfl rfl (z:=(((i + 1):Nat):Int)) (Bo (by first | rfl | omega | (push_cast; rfl)) (by omega) (by omega))) ?_
    refine l_A (iV ((((i + 1):Nat):Int))) rfl rfl ?_
    apply Ac
    refine ⟨_,?_,((i + 1)),rfl,rfl,rfl,rfl,h16_0,rfl,(by omega),(Ef p16_1 (by simp only [Alz,hc22,Pk,b4,b7,b9,b12,b19,b24,b31,b32,b35,b36,Bool.true_and,Bool.false_and,Bool.and_true,Bool.and_false,Bool.true_or,Bool.false_or,Bool.or_true,Bool.or_false,Bool.not_true,Bool.not_false])),trivial⟩
    omega
   have q35:=of_decide_eq_false b35
   refine Ap (Bl rfl rfl rfl b35) ?_
   refine Ap (Bl rfl rfl rfl b35) ?_
   refine Aa rfl (Bm rfl b35 (v:=(.bool (false))) rfl) ?_
   apply Ac
   apply k23
   refine Cg rfl rfl ?_
   refine Al ?_
   apply k20
   refine Ag rfl rfl ?_
   refine Aa rfl (Ah (v:=(iV ((i:Int)))) h16_3) ?_
   refine Aa rfl (Br (p:=(i:Int)) (q:=1) rfl rfl (z:=(((i + 1):Nat):Int)) (Bo (by first | rfl | omega | (push_cast; rfl)) (by omega) (by omega))) ?_
   refine l_A (iV ((((i + 1):Nat):Int))) rfl rfl ?_
   apply Ac
   refine ⟨_,?_,((i + 1)),rfl,rfl,rfl,rfl,h16_0,rfl,(by omega),(Ef p16_1 (by simp only [Alz,hc22,Pk,b4,b7,b9,b12,b19,b24,b31,b32,b35,Bool.true_and,Bool.false_and,Bool.and_true,Bool.and_false,Bool.true_or,Bool.false_or,Bool.or_true,Bool.or_false,Bool.not_true,Bool.not_false])),trivial⟩
   omega
  have q31:=of_decide_eq_false b31
  refine Ap (Bl rfl rfl rfl b31) ?_
  refine Ap (Bl rfl rfl rfl b31) ?_
  refine Ap (Bl rfl rfl rfl b31) ?_
  refine Ap (Jf rfl rfl rfl) ?_
  refine Ap (Jf rfl rfl rfl) ?_
  refine Ap (Bl rfl rfl rfl b31) ?_
  refine Aa rfl (Bm rfl b31 (v:=(.bool (false))) rfl) ?_
  refine l_M (.bool (false)) rfl rfl ?_
  refine Ap (Bl rfl rfl rfl rfl) ?_
  refine Ap (Bl rfl rfl rfl rfl) ?_
  refine Aa rfl (Bm rfl rfl (v:=(.bool (false))) rfl) ?_
  apply Ac
  apply k23
  refine Cg rfl rfl ?_
  refine Al ?_
  apply k20
  refine Ag rfl rfl ?_
  refine Aa rfl (Ah (v:=(iV ((i:Int)))) h16_3) ?_
  refine Aa rfl (Br (p:=(i:Int)) (q:=1) rfl rfl (z:=(((i + 1):Nat):Int)) (Bo (by first | rfl | omega | (push_cast; rfl)) (by omega) (by omega))) ?_
  refine l_A (iV ((((i + 1):Nat):Int))) rfl rfl ?_
  apply Ac
  refine ⟨_,?_,((i + 1)),rfl,rfl,rfl,rfl,h16_0,rfl,(by omega),(Ef p16_1 (by simp only [Alz,hc22,Pk,b4,b7,b9,b12,b19,b24,b31,Bool.true_and,Bool.false_and,Bool.and_true,Bool.and_false,Bool.true_or,Bool.false_or,Bool.or_true,Bool.or_false,Bool.not_true,Bool.not_false])),trivial⟩
  omega
 have q19:=of_decide_eq_false b19
 refine Bx ?_
 apply k14
 refine w_q rfl rfl fun K38 k38=>?_
 refine l_A (.bool (true)) rfl rfl ?_
 apply Ac
 apply k38
 refine Aq ?_
 refine hret _ _ _ ?_
 refine ⟨rfl,rfl,Eq.trans (b:=(.bool (true))) rfl ?_⟩
 have hall:=okAll_t.2 fun j hj=>p16_1 j (by omega)
 simp only [Hi,Pu,hall,hc8,b4,b7,b9,b12,b19,Bool.true_and,Bool.false_and,Bool.and_true,Bool.and_false,Bool.true_or,Bool.false_or,Bool.or_true,Bool.or_false,Bool.not_true,Bool.not_false]
set_option maxRecDepth 100000 in
theorem c_Find {mn:Bool} {X:Frame→List Frame→Ro→Own→Cy→Prop} {ρ:Ro} {σ:Own} {l:List ByteArray} {vl:Value} {s:ByteArray} (rl:Val ρ vl l):CallsH (CX mn X) 114 #[vl,(.string (s))] ρ σ (fun w ρ' σ'=>ρ' = ρ∧σ' = σ∧w = (iV (Ajt l s))):=by
 refine Bh (n:=19) (args:=[vl,(.string (s))]) [4] Tryd.func114 rfl rfl rfl rfl fun Q hret hnor=>?_
 refine w_q rfl rfl fun K1 k1=>?_
 refine l_A (iV (0)) rfl rfl ?_
 apply Ac
 apply k1
 refine Ai fun K2 k2=>?_
 refine w_q rfl rfl fun K3 k3=>?_
 refine l_A (iV (0)) rfl rfl ?_
 apply Ac
 apply k3
 refine Ao ?_
 refine Cc (fun mm ee dd ρ' σ'=>∃ (i:Nat),(l.length - i) = mm∧[] = dd∧ρ = ρ'∧σ = σ'∧ee 0 = vl∧ee 1 = (.string (s))∧ee 5 = (iV ((i:Int)))∧(i ≤ l.length)∧(∀ j,j < i→Xp l s j = false)∧True) (m:=_) ⟨0,rfl,rfl,rfl,rfl,rfl,rfl,rfl,(Nat.zero_le _),(fun j h=>absurd h (Nat.not_lt_zero _)),trivial⟩ ?_
 rintro m4 e4 _ _ _ ⟨i,rfl,rfl,rfl,rfl,h4_0,h4_1,h4_5,p4_0,p4_1,_⟩
 refine Ai fun K5 k5=>?_
 refine w_q rfl rfl fun K6 k6=>?_
 refine Aa rfl (Ah (v:=(iV ((i:Int)))) h4_5) ?_
 refine Aa rfl (Ah (v:=vl) h4_0) ?_
 have g7:=Val.len rl
 refine Aa rfl (Ce (el:=9) Tryd.underlying22 rfl rl) ?_
 refine Aa rfl (Da (p:=(i:Int)) (q:=((l.length:Nat):Int)) rfl rfl) ?_
 apply Ac
 apply k6
 refine As (t:=decide ((i:Int) < ((l.length:Nat):Int))) rfl (fun b8=>?_) (fun b8=>?_)
 ·have q8:=of_decide_eq_true b8
  refine Al ?_
  apply k5
  refine Ai fun K9 k9=>?_
  refine Ao ?_
  refine w_q rfl rfl fun K10 k10=>?_
  refine Aa rfl (Ah (v:=vl) h4_0) ?_
  refine Aa rfl (Ah (v:=(iV ((i:Int)))) h4_5) ?_
  obtain ⟨a12,ha12⟩:=Ed (xs:=l) (i:=i) (by omega)
  refine Ak rfl (Ci i Tryd.underlying22 ty9 rfl rl (q:=(i:Int)) rfl rfl ha12) fun v11 r11=>?_
  have g13:=At.slen r11
  refine Aa rfl (Oz ty9 rfl r11) ?_
  refine Aa rfl (Ah (v:=(.string (s))) h4_1) ?_
  refine Aa rfl (y_eqs (p:=a12) (q:=s) rfl rfl) ?_
  apply Ac
  apply k10
  refine As (t:=(a12).toList == (s).toList) rfl (fun b14=>?_) (fun b14=>?_)
  ·have q14:=Jo b14
   refine w_q rfl rfl fun K15 k15=>?_
   refine Aa rfl (Ah (v:=(iV ((i:Int)))) h4_5) ?_
   refine l_A (iV ((i:Int))) rfl rfl ?_
   apply Ac
   apply k15
   refine Aq ?_
   refine hret _ _ _ ?_
   refine ⟨rfl,rfl,Eq.trans (b:=(iV ((i:Int)))) rfl ?_⟩
   have hi:=Fg (n:=l.length) p4_1 (by omega) (show Xp l s i = true by simp only [Xp,ha12,b8,b14])
   simp only [Ajt,hi]
  have q14:=La b14
  refine Al ?_
  apply k9
  refine Ag rfl rfl ?_
  refine Aa rfl (Ah (v:=(iV ((i:Int)))) h4_5) ?_
  refine Aa rfl (Br (p:=(i:Int)) (q:=1) rfl rfl (z:=(((i + 1):Nat):Int)) (Bo (by first | rfl | omega | (push_cast; rfl)) (by omega) (by omega))) ?_
  refine l_A (iV ((((i + 1):Nat):Int))) rfl rfl ?_
  apply Ac
  refine ⟨_,?_,((i + 1)),rfl,rfl,rfl,rfl,h4_0,h4_1,rfl,(by omega),(Ef p4_1 (by simp only [Xp,ha12,b8,b14])),trivial⟩
  omega
 have q8:=of_decide_eq_false b8
 refine Bx ?_
 apply k2
 refine w_q rfl rfl fun K16 k16=>?_
 refine l_A (iV ((-1))) rfl rfl ?_
 apply Ac
 apply k16
 refine Aq ?_
 refine hret _ _ _ ?_
 refine ⟨rfl,rfl,Eq.trans (b:=(iV ((-1)))) rfl ?_⟩
 have hn:=Ep (n:=l.length) fun j hj=>p4_1 j (by omega)
 simp only [Ajt,hn]
set_option maxRecDepth 100000 in
theorem c_names {mn:Bool} {X:Frame→List Frame→Ro→Own→Cy→Prop} {ρ:Ro} {σ:Own} {l:List ByteArray} {vl:Value} {most:Int} (rl:Val ρ vl l):CallsH (CX mn X) 77 #[vl,(iV (most))] ρ σ (fun w ρ' σ'=>ρ' = ρ∧σ' = σ∧w = (iV (Dd l most))):=by
 refine Bh (n:=31) (args:=[vl,(iV (most))]) [4] Tryd.func77 rfl rfl rfl rfl fun Q hret hnor=>?_
 refine w_q rfl rfl fun K1 k1=>?_
 refine l_A (iV (0)) rfl rfl ?_
 apply Ac
 apply k1
 refine Ai fun K2 k2=>?_
 refine w_q rfl rfl fun K3 k3=>?_
 refine l_M vl rfl rfl ?_
 have g4:=Val.len rl
 refine Aa rfl (Ce (el:=9) Tryd.underlying22 rfl rl) ?_
 refine l_M (iV (most)) rfl rfl ?_
 refine Aa rfl (Gk (p:=((l.length:Nat):Int)) (q:=most) rfl rfl) ?_
 apply Ac
 apply k3
 refine As (t:=decide (((l.length:Nat):Int) > most)) rfl (fun b5=>?_) (fun b5=>?_)
 ·have q5:=of_decide_eq_true b5
  refine w_q rfl rfl fun K6 k6=>?_
  refine l_A (iV (2)) rfl rfl ?_
  apply Ac
  apply k6
  refine Aq ?_
  refine hret _ _ _ ?_
  refine ⟨rfl,rfl,Eq.trans (b:=(iV (2))) rfl ?_⟩
  rw [Dd,if_pos (by omega)]
 have q5:=of_decide_eq_false b5
 refine Al ?_
 apply k2
 refine Ai fun K7 k7=>?_
 refine w_q rfl rfl fun K8 k8=>?_
 refine l_A (iV (0)) rfl rfl ?_
 apply Ac
 apply k8
 refine Ao ?_
 refine Cc (fun mm ee dd ρ' σ'=>∃ (i:Nat),(l.length - i) = mm∧[] = dd∧ρ = ρ'∧σ = σ'∧ee 0 = vl∧ee 5 = (iV ((i:Int)))∧(i ≤ l.length)∧(∀ j,j < i→Nh l j = 0)∧True) (m:=_) ⟨0,rfl,rfl,rfl,rfl,rfl,rfl,(Nat.zero_le _),(fun j h=>absurd h (Nat.not_lt_zero _)),trivial⟩ ?_
 rintro m9 e9 _ _ _ ⟨i,rfl,rfl,rfl,rfl,h9_0,h9_5,p9_0,p9_1,_⟩
 refine Ai fun K10 k10=>?_
 refine w_q rfl rfl fun K11 k11=>?_
 refine Aa rfl (Ah (v:=(iV ((i:Int)))) h9_5) ?_
 refine Aa rfl (Ah (v:=vl) h9_0) ?_
 have g12:=Val.len rl
 refine Aa rfl (Ce (el:=9) Tryd.underlying22 rfl rl) ?_
 refine Aa rfl (Da (p:=(i:Int)) (q:=((l.length:Nat):Int)) rfl rfl) ?_
 apply Ac
 apply k11
 refine As (t:=decide ((i:Int) < ((l.length:Nat):Int))) rfl (fun b13=>?_) (fun b13=>?_)
 ·have q13:=of_decide_eq_true b13
  refine Al ?_
  apply k10
  refine Ai fun K14 k14=>?_
  refine Ao ?_
  refine Ai fun K15 k15=>?_
  refine w_q rfl rfl fun K16 k16=>?_
  refine Aa rfl (Ah (v:=vl) h9_0) ?_
  refine Aa rfl (Ah (v:=(iV ((i:Int)))) h9_5) ?_
  obtain ⟨a18,ha18⟩:=Ed (xs:=l) (i:=i) (by omega)
  refine Ak rfl (Ci i Tryd.underlying22 ty9 rfl rl (q:=(i:Int)) rfl rfl ha18) fun v17 r17=>?_
  have g19:=At.slen r17
  refine Aa rfl (Oz ty9 rfl r17) ?_
  refine Ae rfl (Bn (vs:=[(.string (a18))]) (v:=(.bool (Hi a18))) (c_Name) Tryd.func78 rfl rfl ⟨rfl,trivial⟩ ?_)
  refine Aa rfl (Ix (k:=Hi a18) rfl) ?_
  apply Ac
  apply k16
  refine As (t:=!(Hi a18)) rfl (fun b20=>?_) (fun b20=>?_)
  ·have b21:=not_eq_t b20
   refine w_q rfl rfl fun K22 k22=>?_
   refine l_A (iV (4)) rfl rfl ?_
   apply Ac
   apply k22
   refine Aq ?_
   refine hret _ _ _ ?_
   refine ⟨rfl,rfl,Eq.trans (b:=(iV (4))) rfl ?_⟩
   have hf:Nh l i = 4:=by simp only [Nh,ha18,b5,b13,b20,b21]; first | rfl | omega | (simp; done) | (simp; omega)
   rw [Dd,if_neg (by omega),Db p9_1 (by omega) hf (by omega)]
  have b23:=not_eq_f b20
  refine Al ?_
  apply k15
  refine Ai fun K24 k24=>?_
  refine Dc [0,1,2,3,4,5,6,7,8] (by kernel_rfl) rfl rfl ?_
  refine Be (i:=0) Aov rfl (by kernel_rfl) rfl Ary rfl (Ah (v:=vl) h9_0) ?_
  refine Be (i:=1) Aof rfl (by kernel_rfl) rfl Ary rfl (Ah (v:=(iV ((i:Int)))) h9_5) ?_
  refine Cd (i:=2) Apd rfl (by kernel_rfl) rfl Ary rfl (y_slice_hi i Tryd.underlying22 ty9 rfl rl (q:=(i:Int)) rfl rfl (by omega)) fun v25 r25=>?_
  refine Be (i:=3) Anf rfl (by kernel_rfl) rfl Ary rfl (Ah (v:=vl) h9_0) ?_
  refine Bg (i:=4) Aon rfl (by kernel_rfl) rfl Ary rfl (Ah (v:=(iV ((i:Int)))) h9_5) ?_
  refine Hl (i:=5) Aob rfl (by kernel_rfl) rfl Ary rfl (Ci i Tryd.underlying22 ty9 rfl rl (q:=(i:Int)) rfl rfl ha18) fun v26 r26=>?_
  have g27:=At.slen r26
  refine Bg (i:=6) Aow rfl (by kernel_rfl) rfl Ary rfl (Oz ty9 rfl r26) ?_
  refine Dj (i:=7) Anz rfl (by kernel_rfl) rfl rfl (Bn (vs:=[v25,(.string (a18))]) (v:=(iV (Ajt ((l.take i)) a18))) (c_Find r25) Tryd.func114 rfl rfl ⟨rfl,rfl,trivial⟩ ⟨Ary,?_⟩)
  refine Bg (i:=8) Anb rfl (by kernel_rfl) rfl Ary rfl (Uv (p:=Ajt ((l.take i)) a18) (q:=0) rfl rfl) ?_
  refine Ec rfl ?_
  apply k24
  refine As (t:=decide (Ajt ((l.take i)) a18 ≥ 0)) rfl (fun b28=>?_) (fun b28=>?_)
  ·have q28:=of_decide_eq_true b28
   refine w_q rfl rfl fun K29 k29=>?_
   refine l_A (iV (5)) rfl rfl ?_
   apply Ac
   apply k29
   refine Aq ?_
   refine hret _ _ _ ?_
   refine ⟨rfl,rfl,Eq.trans (b:=(iV (5))) rfl ?_⟩
   have hf:Nh l i = 5:=by simp only [Nh,ha18,b5,b13,b20,b23,b28]; first | rfl | omega | (simp; done) | (simp; omega)
   rw [Dd,if_neg (by omega),Db p9_1 (by omega) hf (by omega)]
  have q28:=of_decide_eq_false b28
  refine Al ?_
  apply k14
  refine Ag rfl rfl ?_
  refine Aa rfl (Ah (v:=(iV ((i:Int)))) h9_5) ?_
  refine Aa rfl (Br (p:=(i:Int)) (q:=1) rfl rfl (z:=(((i + 1):Nat):Int)) (Bo (by first | rfl | omega | (push_cast; rfl)) (by omega) (by omega))) ?_
  refine l_A (iV ((((i + 1):Nat):Int))) rfl rfl ?_
  apply Ac
  refine ⟨_,?_,((i + 1)),rfl,rfl,rfl,rfl,h9_0,rfl,(by omega),(Ef p9_1 (by simp only [Nh,ha18,b5,b13,b20,b23,b28]; first | rfl | omega | (simp; done) | (simp; omega))),trivial⟩
  omega
 have q13:=of_decide_eq_false b13
 refine Bx ?_
 apply k7
 refine w_q rfl rfl fun K30 k30=>?_
 refine l_A (iV (0)) rfl rfl ?_
 apply Ac
 apply k30
 refine Aq ?_
 refine hret _ _ _ ?_
 refine ⟨rfl,rfl,Eq.trans (b:=(iV (0))) rfl ?_⟩
 rw [Dd,if_neg (by omega),Fb fun j hj=>p9_1 j (by omega)]
end Go.Proofs.YtoefdnbaklajeaaDoor

namespace Go.Proofs.YtoefdnbaklajeaaDoor
open Go
theorem testIs_none {l:Lab} {i:Nat} {s:ByteArray} (h:∀ j,j < i→Rm l s j = false):(Cl i (Rm l s)).isSome = false:=Fs.2 h
theorem testIs_some {l:Lab} {i k:Nat} {s:ByteArray} (hk:k < i) (h:Rm l s k = true):(Cl i (Rm l s)).isSome = true:=by
  cases hh:(Cl i (Rm l s)).isSome with
  | true=>rfl
  | false=>rw [Fs.1 hh k hk] at h; cases h
end Go.Proofs.YtoefdnbaklajeaaDoor

namespace Go.Proofs.YtoefdnbaklajeaaDoor
open Go
set_option maxRecDepth 100000 in
theorem c_refCheckLab {mn:Bool} {X:Frame→List Frame→Ro→Own→Cy→Prop} {ρ:Ro} {σ:Own} {l:Lab} {vl:Value} (rl:Val ρ vl l):CallsH (CX mn X) 39 #[vl] ρ σ (fun w ρ' σ'=>ρ' = ρ∧σ' = σ∧w = (iV (Gj l))):=by
 refine Bh (n:=83) (args:=[vl]) [2] Tryd.func39 rfl rfl rfl rfl fun Q hret hnor=>?_
 refine w_q rfl rfl fun K1 k1=>?_
 refine Ae rfl (Eb (v:=vl) rfl fun k2=>?_)
 refine Bb (a:=l) rl fun ρ2 l2 r2=>?_
 replace rl:=Asa l2 rl
 refine l_A (iV (0)) rfl rfl ?_
 apply Ac
 apply k1
 refine Ai fun K3 k3=>?_
 refine w_q rfl rfl fun K4 k4=>?_
 refine Ak rfl (Ay Lab.f_kinds Tryd.underlying40 rfl rfl Hu (by decide) rfl r2) fun v5 r5=>?_
 refine Ak rfl (Ax Hu rfl r5) fun v6 r6=>?_
 refine Ae rfl (Bn (vs:=[v6,(iV (4))]) (v:=(iV (Dd l.kinds 4))) (c_names r6) Tryd.func77 rfl rfl ⟨rfl,rfl,trivial⟩ ?_)
 refine l_A (iV (Dd l.kinds 4)) rfl rfl ?_
 apply Ac
 apply k4
 refine w_q rfl rfl fun K7 k7=>?_
 refine l_M (iV (Dd l.kinds 4)) rfl rfl ?_
 refine Aa rfl (Dg (p:=Dd l.kinds 4) (q:=0) rfl rfl) ?_
 apply Ac
 apply k7
 refine As (t:=Dd l.kinds 4 != 0) rfl (fun b8=>?_) (fun b8=>?_)
 ·have q8:=Mb b8
  refine w_q rfl rfl fun K9 k9=>?_
  refine l_M (iV (Dd l.kinds 4)) rfl rfl ?_
  refine l_A (iV (Dd l.kinds 4)) rfl rfl ?_
  apply Ac
  apply k9
  refine Aj (Arw l2) ?_
  refine Aq ?_
  refine hret _ _ _ ?_
  refine ⟨rfl,rfl,Eq.trans (b:=(iV (Dd l.kinds 4))) rfl ?_⟩
  rw [Gj,Rx q8]
 have q8:=Jh b8
 refine Al ?_
 apply k3
 refine Ai fun K10 k10=>?_
 refine w_q rfl rfl fun K11 k11=>?_
 refine Ak rfl (Ay Lab.f_most Tryd.underlying40 rfl rfl ty3 (by decide) rfl r2) fun v12 r12=>?_
 have ⟨g13a,g13b⟩:=At.rng r12
 refine Aa rfl (Bc ty3 rfl r12) ?_
 refine Ak rfl (Ay Lab.f_kinds Tryd.underlying40 rfl rfl Hu (by decide) rfl r2) fun v14 r14=>?_
 refine Ak rfl (Ax Hu rfl r14) fun v15 r15=>?_
 have g16:=Val.len r15
 refine Aa rfl (Ce (el:=9) Tryd.underlying22 rfl r15) ?_
 refine Ae rfl (Bn (vs:=[(iV (l.most)),(iV (0)),(iV (((l.kinds.length:Nat):Int)))]) (v:=(.bool (inR l.most 0 (((l.kinds.length:Nat):Int))))) (c_In) Tryd.func79 rfl rfl ⟨rfl,rfl,rfl,trivial⟩ ?_)
 refine Aa rfl (Ix (k:=inR l.most 0 (((l.kinds.length:Nat):Int))) rfl) ?_
 apply Ac
 apply k11
 refine As (t:=!(inR l.most 0 (((l.kinds.length:Nat):Int)))) rfl (fun b17=>?_) (fun b17=>?_)
 ·have b18:=not_eq_t b17
  have q18:=Ui.1 b18
  refine w_q rfl rfl fun K19 k19=>?_
  refine l_A (iV (1)) rfl rfl ?_
  apply Ac
  apply k19
  refine Aj (Arw l2) ?_
  refine Aq ?_
  refine hret _ _ _ ?_
  refine ⟨rfl,rfl,Eq.trans (b:=(iV (1))) rfl ?_⟩
  have hi:inR l.most 0 (l.kinds.length:Int) = false:=Ui.2 q18
  rw [Gj,Gt q8,Jw,hi]; rfl
 have b20:=not_eq_f b17
 have q20:=Ge.1 b20
 refine Al ?_
 apply k10
 refine Ai fun K21 k21=>?_
 refine w_q rfl rfl fun K22 k22=>?_
 refine Ak rfl (Ay Lab.f_tests Tryd.underlying40 rfl rfl Vd (by decide) rfl r2) fun v23 r23=>?_
 refine Ak rfl (Ax Vd rfl r23) fun v24 r24=>?_
 have g25:=Val.len r24
 refine Aa rfl (Ce (el:=108) Tryd.underlying38 rfl r24) ?_
 refine Aa rfl (Gk (p:=((l.tests.length:Nat):Int)) (q:=5) rfl rfl) ?_
 apply Ac
 apply k22
 refine As (t:=decide (((l.tests.length:Nat):Int) > 5)) rfl (fun b26=>?_) (fun b26=>?_)
 ·have q26:=of_decide_eq_true b26
  refine w_q rfl rfl fun K27 k27=>?_
  refine l_A (iV (2)) rfl rfl ?_
  apply Ac
  apply k27
  refine Aj (Arw l2) ?_
  refine Aq ?_
  refine hret _ _ _ ?_
  refine ⟨rfl,rfl,Eq.trans (b:=(iV (2))) rfl ?_⟩
  have hi:inR l.most 0 (l.kinds.length:Int) = true:=Ge.2 q20
  rw [Gj,Gt q8,Jw,hi,if_pos rfl,if_pos (by omega)]
 have q26:=of_decide_eq_false b26
 refine Al ?_
 apply k21
 refine Ai fun K28 k28=>?_
 refine w_q rfl rfl fun K29 k29=>?_
 refine l_A (iV (0)) rfl rfl ?_
 apply Ac
 apply k29
 refine Ao ?_
 refine Cc (fun mm ee dd ρ' σ'=>∃ (i:Nat),(l.tests.length - i) = mm∧[] = dd∧ρ2 = ρ'∧σ = σ'∧ee 1 = (.pointer (some ⟨k2,0,none⟩))∧ee 4 = (iV ((i:Int)))∧(i ≤ l.tests.length)∧(∀ j,j < i→Gz l j = 0)∧True) (m:=_) ⟨0,rfl,rfl,rfl,rfl,rfl,rfl,(Nat.zero_le _),(fun j h=>absurd h (Nat.not_lt_zero _)),trivial⟩ ?_
 rintro m30 e30 _ _ _ ⟨i,rfl,rfl,rfl,rfl,h30_1,h30_4,p30_0,p30_1,_⟩
 refine Ai fun K31 k31=>?_
 refine w_q rfl rfl fun K32 k32=>?_
 refine Aa rfl (Ah (v:=(iV ((i:Int)))) h30_4) ?_
 refine Ak rfl (Ay Lab.f_tests Tryd.underlying40 rfl rfl Vd (by decide) h30_1 r2) fun v33 r33=>?_
 refine Ak rfl (Ax Vd rfl r33) fun v34 r34=>?_
 have g35:=Val.len r34
 refine Aa rfl (Ce (el:=108) Tryd.underlying38 rfl r34) ?_
 refine Aa rfl (Da (p:=(i:Int)) (q:=((l.tests.length:Nat):Int)) rfl rfl) ?_
 apply Ac
 apply k32
 refine As (t:=decide ((i:Int) < ((l.tests.length:Nat):Int))) rfl (fun b36=>?_) (fun b36=>?_)
 ·have q36:=of_decide_eq_true b36
  refine Al ?_
  apply k31
  refine Ai fun K37 k37=>?_
  refine Ao ?_
  refine w_q rfl rfl fun K38 k38=>?_
  refine Ak rfl (Ay Lab.f_tests Tryd.underlying40 rfl rfl Vd (by decide) h30_1 r2) fun v39 r39=>?_
  refine Ak rfl (Ax Vd rfl r39) fun v40 r40=>?_
  refine Aa rfl (Ah (v:=(iV ((i:Int)))) h30_4) ?_
  obtain ⟨a42,ha42⟩:=Ed (xs:=l.tests) (i:=i) (by omega)
  refine Ak rfl (Ci i Tryd.underlying38 Td rfl r40 (q:=(i:Int)) rfl rfl ha42) fun v41 r41=>?_
  refine Ak rfl (Ax Td rfl r41) fun v43 r43=>?_
  refine Ae rfl (Ct Vm fun k44=>?_)
  refine Cx rfl (Du (v:=v43) (a:=a42) (c:=Aaf) Td rfl rfl r43 rfl ?_)
  refine Bb (a:=a42) r43 fun ρ45 l45 r45=>?_
  replace r2:=Arv l45 r2
  replace r39:=Arv l45 r39
  replace r40:=Asa l45 r40
  replace r41:=Arv l45 r41
  replace r43:=Asa l45 r43
  apply Ac
  apply k38
  refine Ai fun K46 k46=>?_
  refine w_q rfl rfl fun K47 k47=>?_
  refine Ak rfl (Ay FTest.f_name Tryd.underlying108 rfl rfl ty9 (by decide) rfl r45) fun v48 r48=>?_
  have g49:=At.slen r48
  refine Aa rfl (Oz ty9 rfl r48) ?_
  refine Ae rfl (Bn (vs:=[(.string (a42.name))]) (v:=(.bool (Hi a42.name))) (c_Name) Tryd.func78 rfl rfl ⟨rfl,trivial⟩ ?_)
  refine Aa rfl (Ix (k:=Hi a42.name) rfl) ?_
  apply Ac
  apply k47
  refine As (t:=!(Hi a42.name)) rfl (fun b50=>?_) (fun b50=>?_)
  ·have b51:=not_eq_t b50
   refine w_q rfl rfl fun K52 k52=>?_
   refine l_A (iV (4)) rfl rfl ?_
   apply Ac
   apply k52
   refine Aj (Arw (Arz l2 l45)) ?_
   refine Aq ?_
   refine hret _ _ _ ?_
   refine ⟨rfl,rfl,Eq.trans (b:=(iV (4))) rfl ?_⟩
   have hi:inR l.most 0 (l.kinds.length:Int) = true:=Ge.2 q20
   have hf:Gz l i = 4:=by
    simp [Gz,ha42,b8,b17,b20,b26,b36,b50,b51]
   rw [Gj,Gt q8,Jw,hi,if_pos rfl,if_neg (by omega),Db p30_1 (by omega) hf (by omega)]
  have b53:=not_eq_f b50
  refine Al ?_
  apply k46
  refine Ai fun K54 k54=>?_
  refine w_q rfl rfl fun K55 k55=>?_
  refine l_A (iV (0)) rfl rfl ?_
  apply Ac
  apply k55
  refine Ao ?_
  refine Cc (fun mm ee dd ρ' σ'=>∃ (k:Nat),(i - k) = mm∧[] = dd∧ρ45 = ρ'∧σ = σ'∧ee 1 = (.pointer (some ⟨k2,0,none⟩))∧ee 4 = (iV ((i:Int)))∧ee 5 = (.pointer (some ⟨k44,0,none⟩))∧ee 6 = (iV ((k:Int)))∧(k ≤ i)∧(∀ j,j < k→Rm l a42.name j = false)∧True) (m:=_) ⟨0,rfl,rfl,rfl,rfl,h30_1,h30_4,rfl,rfl,(Nat.zero_le _),(fun j h=>absurd h (Nat.not_lt_zero _)),trivial⟩ ?_
  rintro m56 e56 _ _ _ ⟨k,rfl,rfl,rfl,rfl,h56_1,h56_4,h56_5,h56_6,p56_0,p56_1,_⟩
  refine Ai fun K57 k57=>?_
  refine w_q rfl rfl fun K58 k58=>?_
  refine Aa rfl (Ah (v:=(iV ((k:Int)))) h56_6) ?_
  refine Aa rfl (Ah (v:=(iV ((i:Int)))) h56_4) ?_
  refine Aa rfl (Da (p:=(k:Int)) (q:=(i:Int)) rfl rfl) ?_
  apply Ac
  apply k58
  refine As (t:=decide ((k:Int) < (i:Int))) rfl (fun b59=>?_) (fun b59=>?_)
  ·have q59:=of_decide_eq_true b59
   refine Al ?_
   apply k57
   refine Ai fun K60 k60=>?_
   refine Ao ?_
   refine Ai fun K61 k61=>?_
   refine Dc [0,1,2,3,4,5,6,7,8] (by kernel_rfl) rfl rfl ?_
   refine Cd (i:=0) Aov rfl (by kernel_rfl) rfl Ary rfl (Ay Lab.f_tests Tryd.underlying40 rfl rfl Vd (by decide) h56_1 r2) fun v62 r62=>?_
   refine Cd (i:=1) Aof rfl (by kernel_rfl) rfl Ary rfl (Ax Vd rfl r62) fun v63 r63=>?_
   refine Be (i:=2) Apd rfl (by kernel_rfl) rfl Ary rfl (Ah (v:=(iV ((k:Int)))) h56_6) ?_
   obtain ⟨a65,ha65⟩:=Ed (xs:=l.tests) (i:=k) (by omega)
   refine Cd (i:=3) Anf rfl (by kernel_rfl) rfl Ary rfl (Ci k Tryd.underlying38 Td rfl r63 (q:=(k:Int)) rfl rfl ha65) fun v64 r64=>?_
   refine Cd (i:=4) Aon rfl (by kernel_rfl) rfl Ary rfl (Ay FTest.f_name Tryd.underlying108 rfl rfl ty9 (by decide) rfl r64) fun v66 r66=>?_
   have g67:=At.slen r66
   refine Be (i:=5) Aob rfl (by kernel_rfl) rfl Ary rfl (Oz ty9 rfl r66) ?_
   refine Hl (i:=6) Aow rfl (by kernel_rfl) rfl Ary rfl (Ay FTest.f_name Tryd.underlying108 rfl rfl ty9 (by decide) h56_5 r45) fun v68 r68=>?_
   have g69:=At.slen r68
   refine Bg (i:=7) Anz rfl (by kernel_rfl) rfl Ary rfl (Oz ty9 rfl r68) ?_
   refine Bg (i:=8) Anb rfl (by kernel_rfl) rfl Ary rfl (y_eqs (p:=a65.name) (q:=a42.name) rfl rfl) ?_
   refine Ec rfl ?_
   apply k61
   refine As (t:=(a65.name).toList == (a42.name).toList) rfl (fun b70=>?_) (fun b70=>?_)
   ·have q70:=Jo b70
    refine w_q rfl rfl fun K71 k71=>?_
    refine l_A (iV (5)) rfl rfl ?_
    apply Ac
    apply k71
    refine Aj (Arw (Arz l2 l45)) ?_
    refine Aq ?_
    refine hret _ _ _ ?_
    refine ⟨rfl,rfl,Eq.trans (b:=(iV (5))) rfl ?_⟩
    have hi:inR l.most 0 (l.kinds.length:Int) = true:=Ge.2 q20
    have hf:Gz l i = 5:=by
     have htw:=testIs_some (show k < i by omega) (show Rm l a42.name k = true by simp [Rm,ha65,b8,b17,b20,b26,b36,b50,b53,b59,b70,q8,q20,q26,q36,q59,q70])
     simp [Gz,ha42,htw,b8,b17,b20,b26,b36,b50,b53,b59,b70]
    rw [Gj,Gt q8,Jw,hi,if_pos rfl,if_neg (by omega),Db p30_1 (by omega) hf (by omega)]
   have q70:=La b70
   refine Al ?_
   apply k60
   refine Ag rfl rfl ?_
   refine Aa rfl (Ah (v:=(iV ((k:Int)))) h56_6) ?_
   refine Aa rfl (Br (p:=(k:Int)) (q:=1) rfl rfl (z:=(((k + 1):Nat):Int)) (Bo (by first | rfl | omega | (push_cast; rfl)) (by omega) (by omega))) ?_
   refine l_A (iV ((((k + 1):Nat):Int))) rfl rfl ?_
   apply Ac
   refine ⟨_,?_,((k + 1)),rfl,rfl,rfl,rfl,h56_1,h56_4,h56_5,rfl,(by omega),(Ef p56_1 (by simp [Rm,ha65,b8,b17,b20,b26,b36,b50,b53,b59,b70,q8,q20,q26,q36,q59,q70])),trivial⟩
   omega
  have q59:=of_decide_eq_false b59
  refine Bx ?_
  apply k54
  refine Ai fun K72 k72=>?_
  refine w_q rfl rfl fun K73 k73=>?_
  refine Ak rfl (Ay FTest.f_sees Tryd.underlying108 rfl rfl Aex (by decide) h56_5 r45) fun v74 r74=>?_
  refine Ak rfl (Ax Aex rfl r74) fun v75 r75=>?_
  have g76:=Val.len r75
  refine Aa rfl (Ce (el:=53) Tryd.underlying46 rfl r75) ?_
  refine Ak rfl (Ay Lab.f_kinds Tryd.underlying40 rfl rfl Hu (by decide) h56_1 r2) fun v77 r77=>?_
  refine Ak rfl (Ax Hu rfl r77) fun v78 r78=>?_
  have g79:=Val.len r78
  refine Aa rfl (Ce (el:=9) Tryd.underlying22 rfl r78) ?_
  refine Aa rfl (Dg (p:=((a42.sees.length:Nat):Int)) (q:=((l.kinds.length:Nat):Int)) rfl rfl) ?_
  apply Ac
  apply k73
  refine As (t:=((a42.sees.length:Nat):Int) != ((l.kinds.length:Nat):Int)) rfl (fun b80=>?_) (fun b80=>?_)
  ·have q80:=Mb b80
   refine w_q rfl rfl fun K81 k81=>?_
   refine l_A (iV (2)) rfl rfl ?_
   apply Ac
   apply k81
   refine Aj (Arw (Arz l2 l45)) ?_
   refine Aq ?_
   refine hret _ _ _ ?_
   refine ⟨rfl,rfl,Eq.trans (b:=(iV (2))) rfl ?_⟩
   have hi:inR l.most 0 (l.kinds.length:Int) = true:=Ge.2 q20
   have hf:Gz l i = 2:=by
    have htw:=(testIs_none fun j hj=>p56_1 j (by omega):(Cl i (Rm l a42.name)).isSome = false)
    simp only [Gz,ha42,htw,b8,b17,b20,b26,b36,b50,b53,b59,b80,if_true,Bool.false_eq_true,if_false]
    rw [if_neg (by omega)]
   rw [Gj,Gt q8,Jw,hi,if_pos rfl,if_neg (by omega),Db p30_1 (by omega) hf (by omega)]
  have q80:=Jh b80
  refine Al ?_
  apply k72
  refine w_q rfl rfl fun K82 k82=>?_
  refine l_A (iV (0)) rfl rfl ?_
  apply Ac
  apply k82
  refine Ao ?_
  refine Cc (fun mm ee dd ρ' σ'=>∃ (q:Nat),(a42.sees.length - q) = mm∧[] = dd∧ρ45 = ρ'∧σ = σ'∧ee 1 = (.pointer (some ⟨k2,0,none⟩))∧ee 4 = (iV ((i:Int)))∧ee 5 = (.pointer (some ⟨k44,0,none⟩))∧ee 7 = (iV ((q:Int)))∧(q ≤ a42.sees.length)∧(∀ j,j < q→Nb a42 j = 0)∧True) (m:=_) ⟨0,rfl,rfl,rfl,rfl,h56_1,h56_4,h56_5,rfl,(Nat.zero_le _),(fun j h=>absurd h (Nat.not_lt_zero _)),trivial⟩ ?_
  rintro m83 e83 _ _ _ ⟨q,rfl,rfl,rfl,rfl,h83_1,h83_4,h83_5,h83_7,p83_0,p83_1,_⟩
  refine Ai fun K84 k84=>?_
  refine w_q rfl rfl fun K85 k85=>?_
  refine Aa rfl (Ah (v:=(iV ((q:Int)))) h83_7) ?_
  refine Ak rfl (Ay FTest.f_sees Tryd.underlying108 rfl rfl Aex (by decide) h83_5 r45) fun v86 r86=>?_
  refine Ak rfl (Ax Aex rfl r86) fun v87 r87=>?_
  have g88:=Val.len r87
  refine Aa rfl (Ce (el:=53) Tryd.underlying46 rfl r87) ?_
  refine Aa rfl (Da (p:=(q:Int)) (q:=((a42.sees.length:Nat):Int)) rfl rfl) ?_
  apply Ac
  apply k85
  refine As (t:=decide ((q:Int) < ((a42.sees.length:Nat):Int))) rfl (fun b89=>?_) (fun b89=>?_)
  ·have q89:=of_decide_eq_true b89
   refine Al ?_
   apply k84
   refine Ai fun K90 k90=>?_
   refine Ao ?_
   refine w_q rfl rfl fun K91 k91=>?_
   refine Ak rfl (Ay FTest.f_sees Tryd.underlying108 rfl rfl Aex (by decide) h83_5 r45) fun v92 r92=>?_
   refine Ak rfl (Ax Aex rfl r92) fun v93 r93=>?_
   refine Aa rfl (Ah (v:=(iV ((q:Int)))) h83_7) ?_
   obtain ⟨a95,ha95⟩:=Ed (xs:=a42.sees) (i:=q) (by omega)
   refine Ak rfl (Ci q Tryd.underlying46 Ov rfl r93 (q:=(q:Int)) rfl rfl ha95) fun v94 r94=>?_
   have ⟨g96a,g96b⟩:=At.rng r94
   refine Aa rfl (Bc Ov rfl r94) ?_
   refine Aa rfl (Da (p:=a95) (q:=0) rfl rfl) ?_
   refine l_M (.bool (decide (a95 < 0))) rfl rfl ?_
   refine Cn (decide (a95 < 0)) (fun b97=>?_) (fun b97=>?_)
   ·have q97:=of_decide_eq_true b97
    refine Ap (Bl rfl rfl rfl b97) ?_
    refine Ap (Bl rfl rfl rfl b97) ?_
    refine Ap (Bl rfl rfl rfl b97) ?_
    refine Ap (Bl rfl rfl rfl b97) ?_
    refine Ap (Bl rfl rfl rfl b97) ?_
    refine Ap (Bl rfl rfl rfl b97) ?_
    refine Aa rfl (Bt rfl b97 (v:=(.bool (true))) rfl) ?_
    apply Ac
    apply k91
    refine Co rfl rfl ?_
    refine w_q rfl rfl fun K98 k98=>?_
    refine l_A (iV (1)) rfl rfl ?_
    apply Ac
    apply k98
    refine Aj (Arw (Arz l2 l45)) ?_
    refine Aq ?_
    refine hret _ _ _ ?_
    refine ⟨rfl,rfl,Eq.trans (b:=(iV (1))) rfl ?_⟩
    have hi:inR l.most 0 (l.kinds.length:Int) = true:=Ge.2 q20
    have hf:Gz l i = 1:=by
     have htw:=(testIs_none fun j hj=>p56_1 j (by omega):(Cl i (Rm l a42.name)).isSome = false)
     have hq:Nb a42 q = 1:=by simp only [Nb,ha95,b8,b17,b20,b26,b36,b50,b53,b59,b80,b89,b97,Bool.true_and,Bool.false_and,Bool.and_true,Bool.and_false,Bool.true_or,Bool.false_or,Bool.or_true,Bool.or_false,Bool.not_true,Bool.not_false]; rfl
     simp only [Gz,ha42,htw,b8,b17,b20,b26,b36,b50,b53,b59,b80,b89,b97,if_true,Bool.false_eq_true,if_false]
     rw [if_pos (by omega),Db p83_1 (by omega) hq (by omega)]
    rw [Gj,Gt q8,Jw,hi,if_pos rfl,if_neg (by omega),Db p30_1 (by omega) hf (by omega)]
   have q97:=of_decide_eq_false b97
   refine Ak (Ar rfl rfl rfl b97) (Ay FTest.f_sees Tryd.underlying108 rfl rfl Aex (by decide) h83_5 r45) fun v99 r99=>?_
   refine Ak (Ar rfl rfl rfl b97) (Ax Aex rfl r99) fun v100 r100=>?_
   refine Aa (Ar rfl rfl rfl b97) (Ah (v:=(iV ((q:Int)))) h83_7) ?_
   refine Ak (Ar rfl rfl rfl b97) (Ci q Tryd.underlying46 Ov rfl r100 (q:=(q:Int)) rfl rfl ha95) fun v101 r101=>?_
   have ⟨g102a,g102b⟩:=At.rng r101
   refine Aa (Ar rfl rfl rfl b97) (Bc Ov rfl r101) ?_
   refine Aa (Ar rfl rfl rfl b97) (Gk (p:=a95) (q:=2) rfl rfl) ?_
   refine Aa rfl (Bm rfl b97 (v:=(.bool (decide (a95 > 2)))) rfl) ?_
   apply Ac
   apply k91
   refine As (t:=decide (a95 > 2)) rfl (fun b103=>?_) (fun b103=>?_)
   ·have q103:=of_decide_eq_true b103
    refine w_q rfl rfl fun K104 k104=>?_
    refine l_A (iV (1)) rfl rfl ?_
    apply Ac
    apply k104
    refine Aj (Arw (Arz l2 l45)) ?_
    refine Aq ?_
    refine hret _ _ _ ?_
    refine ⟨rfl,rfl,Eq.trans (b:=(iV (1))) rfl ?_⟩
    have hi:inR l.most 0 (l.kinds.length:Int) = true:=Ge.2 q20
    have hf:Gz l i = 1:=by
     have htw:=(testIs_none fun j hj=>p56_1 j (by omega):(Cl i (Rm l a42.name)).isSome = false)
     have hq:Nb a42 q = 1:=by simp only [Nb,ha95,b8,b17,b20,b26,b36,b50,b53,b59,b80,b89,b97,b103,Bool.true_and,Bool.false_and,Bool.and_true,Bool.and_false,Bool.true_or,Bool.false_or,Bool.or_true,Bool.or_false,Bool.not_true,Bool.not_false]; rfl
     simp only [Gz,ha42,htw,b8,b17,b20,b26,b36,b50,b53,b59,b80,b89,b97,b103,if_true,Bool.false_eq_true,if_false]
     rw [if_pos (by omega),Db p83_1 (by omega) hq (by omega)]
    rw [Gj,Gt q8,Jw,hi,if_pos rfl,if_neg (by omega),Db p30_1 (by omega) hf (by omega)]
   have q103:=of_decide_eq_false b103
   refine Al ?_
   apply k90
   refine Ag rfl rfl ?_
   refine Aa rfl (Ah (v:=(iV ((q:Int)))) h83_7) ?_
   refine Aa rfl (Br (p:=(q:Int)) (q:=1) rfl rfl (z:=(((q + 1):Nat):Int)) (Bo (by first | rfl | omega | (push_cast; rfl)) (by omega) (by omega))) ?_
   refine l_A (iV ((((q + 1):Nat):Int))) rfl rfl ?_
   apply Ac
   refine ⟨_,?_,((q + 1)),rfl,rfl,rfl,rfl,h83_1,h83_4,h83_5,rfl,(by omega),(Ef p83_1 (by simp only [Nb,ha95,b8,b17,b20,b26,b36,b50,b53,b59,b80,b89,b97,b103,Bool.true_and,Bool.false_and,Bool.and_true,Bool.and_false,Bool.true_or,Bool.false_or,Bool.or_true,Bool.or_false,Bool.not_true,Bool.not_false]; rfl)),trivial⟩
   omega
  have q89:=of_decide_eq_false b89
  refine Bx ?_
  apply k37
  refine Ag rfl rfl ?_
  refine Aa rfl (Ah (v:=(iV ((i:Int)))) h83_4) ?_
  refine Aa rfl (Br (p:=(i:Int)) (q:=1) rfl rfl (z:=(((i + 1):Nat):Int)) (Bo (by first | rfl | omega | (push_cast; rfl)) (by omega) (by omega))) ?_
  refine l_A (iV ((((i + 1):Nat):Int))) rfl rfl ?_
  refine Bj (Arw l45) ?_
  apply Ac
  refine ⟨_,?_,((i + 1)),rfl,rfl,rfl,rfl,h83_1,rfl,(by omega),(Ef p30_1 (by
 have htw:=(testIs_none fun j hj=>p56_1 j (by omega):(Cl i (Rm l a42.name)).isSome = false)
 simp only [Gz,ha42,htw,b8,b17,b20,b26,b36,b50,b53,b59,b80,b89,if_true,Bool.false_eq_true,if_false]
 rw [if_pos (by omega),Fb fun j hj=>p83_1 j (by omega)])),trivial⟩
  omega
 have q36:=of_decide_eq_false b36
 refine Bx ?_
 apply k28
 refine w_q rfl rfl fun K105 k105=>?_
 refine l_A (iV (0)) rfl rfl ?_
 apply Ac
 apply k105
 refine Aj (Arw l2) ?_
 refine Aq ?_
 refine hret _ _ _ ?_
 refine ⟨rfl,rfl,Eq.trans (b:=(iV (0))) rfl ?_⟩
 have hi:inR l.most 0 (l.kinds.length:Int) = true:=Ge.2 q20
 rw [Gj,Gt q8,Jw,hi,if_pos rfl,if_neg (by omega),Fb fun j hj=>p30_1 j (by omega)]
set_option maxRecDepth 100000 in
theorem c_refcheckResults {mn:Bool} {X:Frame→List Frame→Ro→Own→Cy→Prop} {ρ:Ro} {σ:Own} {l:Lab} {vl vr:Value} {rs:List Found} (rl:Val ρ vl l) (rr:Val ρ vr rs):CallsH (CX mn X) 66 #[vl,vr] ρ σ (fun w ρ' σ'=>ρ' = ρ∧σ' = σ∧w = (iV (Hw l rs))):=by
 refine Bh (n:=32) (args:=[vl,vr]) [4] Tryd.func66 rfl rfl rfl rfl fun Q hret hnor=>?_
 refine w_q rfl rfl fun K1 k1=>?_
 refine Ae rfl (Eb (v:=vl) rfl fun k2=>?_)
 refine Bb (a:=l) rl fun ρ2 l2 r2=>?_
 replace rl:=Asa l2 rl
 replace rr:=Asa l2 rr
 refine l_A (iV (0)) rfl rfl ?_
 apply Ac
 apply k1
 refine Ai fun K3 k3=>?_
 refine w_q rfl rfl fun K4 k4=>?_
 refine Ak rfl (Ax Aaj rfl r2) fun v5 r5=>?_
 refine Ae rfl (Bn (vs:=[v5]) (v:=(iV (Gj l))) (c_refCheckLab r5) Tryd.func39 rfl rfl ⟨rfl,trivial⟩ ?_)
 refine l_A (iV (Gj l)) rfl rfl ?_
 apply Ac
 apply k4
 refine w_q rfl rfl fun K6 k6=>?_
 refine l_M (iV (Gj l)) rfl rfl ?_
 refine Aa rfl (Dg (p:=Gj l) (q:=0) rfl rfl) ?_
 apply Ac
 apply k6
 refine As (t:=Gj l != 0) rfl (fun b7=>?_) (fun b7=>?_)
 ·have q7:=Mb b7
  refine w_q rfl rfl fun K8 k8=>?_
  refine l_M (iV (Gj l)) rfl rfl ?_
  refine l_A (iV (Gj l)) rfl rfl ?_
  apply Ac
  apply k8
  refine Aj (Arw l2) ?_
  refine Aq ?_
  refine hret _ _ _ ?_
  refine ⟨rfl,rfl,Eq.trans (b:=(iV (Gj l))) rfl ?_⟩
  rw [Hw,Rx q7]
 have q7:=Jh b7
 refine Al ?_
 apply k3
 refine Ai fun K9 k9=>?_
 refine w_q rfl rfl fun K10 k10=>?_
 refine l_M vr rfl rfl ?_
 have g11:=Val.len rr
 refine Aa rfl (Ce (el:=43) Tryd.underlying41 rfl rr) ?_
 refine Aa rfl (Gk (p:=((rs.length:Nat):Int)) (q:=8) rfl rfl) ?_
 apply Ac
 apply k10
 refine As (t:=decide (((rs.length:Nat):Int) > 8)) rfl (fun b12=>?_) (fun b12=>?_)
 ·have q12:=of_decide_eq_true b12
  refine w_q rfl rfl fun K13 k13=>?_
  refine l_A (iV (2)) rfl rfl ?_
  apply Ac
  apply k13
  refine Aj (Arw l2) ?_
  refine Aq ?_
  refine hret _ _ _ ?_
  refine ⟨rfl,rfl,Eq.trans (b:=(iV (2))) rfl ?_⟩
  rw [Hw,Gt q7,if_pos (by omega)]
 have q12:=of_decide_eq_false b12
 refine Al ?_
 apply k9
 refine Ai fun K14 k14=>?_
 refine w_q rfl rfl fun K15 k15=>?_
 refine l_A (iV (0)) rfl rfl ?_
 apply Ac
 apply k15
 refine Ao ?_
 refine Cc (fun mm ee dd ρ' σ'=>∃ (i:Nat),(rs.length - i) = mm∧[] = dd∧ρ2 = ρ'∧σ = σ'∧ee 1 = vr∧ee 2 = (.pointer (some ⟨k2,0,none⟩))∧ee 6 = (iV ((i:Int)))∧(i ≤ rs.length)∧(∀ j,j < i→Vw l rs j = 0)∧True) (m:=_) ⟨0,rfl,rfl,rfl,rfl,rfl,rfl,rfl,(Nat.zero_le _),(fun j h=>absurd h (Nat.not_lt_zero _)),trivial⟩ ?_
 rintro m16 e16 _ _ _ ⟨i,rfl,rfl,rfl,rfl,h16_1,h16_2,h16_6,p16_0,p16_1,_⟩
 refine Ai fun K17 k17=>?_
 refine w_q rfl rfl fun K18 k18=>?_
 refine Aa rfl (Ah (v:=(iV ((i:Int)))) h16_6) ?_
 refine Aa rfl (Ah (v:=vr) h16_1) ?_
 have g19:=Val.len rr
 refine Aa rfl (Ce (el:=43) Tryd.underlying41 rfl rr) ?_
 refine Aa rfl (Da (p:=(i:Int)) (q:=((rs.length:Nat):Int)) rfl rfl) ?_
 apply Ac
 apply k18
 refine As (t:=decide ((i:Int) < ((rs.length:Nat):Int))) rfl (fun b20=>?_) (fun b20=>?_)
 ·have q20:=of_decide_eq_true b20
  refine Al ?_
  apply k17
  refine Ai fun K21 k21=>?_
  refine Ao ?_
  refine Ai fun K22 k22=>?_
  refine Dc [0,1,2,3,4,5,6,7,8,9,10] (by kernel_rfl) rfl rfl ?_
  refine Be (i:=0) [o1,o0,o0,o0,o0,o0,o0,o0,o0,o0,o0] rfl (by kernel_rfl) rfl Ary rfl (Ah (v:=vr) h16_1) ?_
  refine Be (i:=1) [o1,o1,o0,o0,o0,o0,o0,o0,o0,o0,o0] rfl (by kernel_rfl) rfl Ary rfl (Ah (v:=(iV ((i:Int)))) h16_6) ?_
  obtain ⟨a24,ha24⟩:=Ed (xs:=rs) (i:=i) (by omega)
  refine Cd (i:=2) [o1,o1,o1,o0,o0,o0,o0,o0,o0,o0,o0] rfl (by kernel_rfl) rfl Ary rfl (Ci i Tryd.underlying41 Aax rfl rr (q:=(i:Int)) rfl rfl ha24) fun v23 r23=>?_
  refine Cd (i:=3) [o1,o1,o1,o1,o0,o0,o0,o0,o0,o0,o0] rfl (by kernel_rfl) rfl Ary rfl (Ay Found.f_test Tryd.underlying43 rfl rfl ty3 (by decide) rfl r23) fun v25 r25=>?_
  have ⟨g26a,g26b⟩:=At.rng r25
  refine Be (i:=4) [o1,o1,o1,o1,o1,o0,o0,o0,o0,o0,o0] rfl (by kernel_rfl) rfl Ary rfl (Bc ty3 rfl r25) ?_
  refine Hl (i:=5) Apb rfl (by kernel_rfl) rfl Ary rfl (Ay Lab.f_tests Tryd.underlying40 rfl rfl Vd (by decide) h16_2 r2) fun v27 r27=>?_
  refine Hl (i:=6) zZ2 rfl (by kernel_rfl) rfl Ary rfl (Ax Vd rfl r27) fun v28 r28=>?_
  have g29:=Val.len r28
  refine Bg (i:=7) zZ3 rfl (by kernel_rfl) rfl Ary rfl (Ce (el:=108) Tryd.underlying38 rfl r28) ?_
  refine Bg (i:=8) zZ4 rfl (by kernel_rfl) rfl Ary rfl (Oq (p:=((l.tests.length:Nat):Int)) (q:=1) rfl rfl (z:=(((l.tests.length:Nat):Int) - 1)) (Bo (by first | rfl | omega | (push_cast; rfl)) (by omega) (by omega))) ?_
  refine Dj (i:=9) zZ5 rfl (by kernel_rfl) rfl rfl (Bn (vs:=[(iV (a24.test)),(iV (0)),(iV ((((l.tests.length:Nat):Int) - 1)))]) (v:=(.bool (inR a24.test 0 ((((l.tests.length:Nat):Int) - 1))))) (c_In) Tryd.func79 rfl rfl ⟨rfl,rfl,rfl,trivial⟩ ⟨Ary,?_⟩)
  refine Bg (i:=10) zZ6 rfl (by kernel_rfl) rfl Ary rfl (Ix (k:=inR a24.test 0 ((((l.tests.length:Nat):Int) - 1))) rfl) ?_
  refine Ec rfl ?_
  apply k22
  refine As (t:=!(inR a24.test 0 ((((l.tests.length:Nat):Int) - 1)))) rfl (fun b30=>?_) (fun b30=>?_)
  ·have b31:=not_eq_t b30
   have q31:=Ui.1 b31
   refine w_q rfl rfl fun K32 k32=>?_
   refine l_A (iV (6)) rfl rfl ?_
   apply Ac
   apply k32
   refine Aj (Arw l2) ?_
   refine Aq ?_
   refine hret _ _ _ ?_
   refine ⟨rfl,rfl,Eq.trans (b:=(iV (6))) rfl ?_⟩
   have hf:Vw l rs i = 6:=by simp [Vw,ha24,b7,b12,b20,b30,b31]
   rw [Hw,Gt q7,if_neg (by omega),Db p16_1 (by omega) hf (by omega)]
  have b33:=not_eq_f b30
  have q33:=Ge.1 b33
  refine Al ?_
  apply k21
  refine Ag rfl rfl ?_
  refine Aa rfl (Ah (v:=(iV ((i:Int)))) h16_6) ?_
  refine Aa rfl (Br (p:=(i:Int)) (q:=1) rfl rfl (z:=(((i + 1):Nat):Int)) (Bo (by first | rfl | omega | (push_cast; rfl)) (by omega) (by omega))) ?_
  refine l_A (iV ((((i + 1):Nat):Int))) rfl rfl ?_
  apply Ac
  refine ⟨_,?_,((i + 1)),rfl,rfl,rfl,rfl,h16_1,h16_2,rfl,(by omega),(Ef p16_1 (by simp [Vw,ha24,b7,b12,b20,b30,b33])),trivial⟩
  omega
 have q20:=of_decide_eq_false b20
 refine Bx ?_
 apply k14
 refine w_q rfl rfl fun K34 k34=>?_
 refine l_A (iV (0)) rfl rfl ?_
 apply Ac
 apply k34
 refine Aj (Arw l2) ?_
 refine Aq ?_
 refine hret _ _ _ ?_
 refine ⟨rfl,rfl,Eq.trans (b:=(iV (0))) rfl ?_⟩
 rw [Hw,Gt q7,if_neg (by omega),Fb fun j hj=>p16_1 j (by omega)]
end Go.Proofs.YtoefdnbaklajeaaDoor

namespace Go.Proofs.YtoefdnbaklajeaaDoor
open Go
theorem pop8_all:(List.range 256).all (fun x=>De x == x % 2 + De (x / 2)) = true:=by decide +kernel
theorem pop8_step {x:Nat} (h:x < 256):De x = x % 2 + De (x / 2):=by
  have:=List.all_eq_true.1 pop8_all x (by simpa using h)
  simpa using this
theorem pop8_0:De 0 = 0:=by decide
theorem any_succ {p:Nat→Bool} {i:Nat}:(List.range (i + 1)).any p = ((List.range i).any p || p i):=by
  rw [List.range_succ,List.any_append]; simp
end Go.Proofs.YtoefdnbaklajeaaDoor

namespace Go.Proofs.YtoefdnbaklajeaaDoor
open Go
set_option maxRecDepth 100000 in
theorem c_size {mn:Bool} {X:Frame→List Frame→Ro→Own→Cy→Prop} {ρ:Ro} {σ:Own} {s:Nat} (hs:s < 256):CallsH (CX mn X) 99 #[(iV ((s:Int)))] ρ σ (fun w ρ' σ'=>ρ' = ρ∧σ' = σ∧w = (iV (((De s:Nat):Int)))):=by
 refine Bh (n:=13) (args:=[(iV ((s:Int)))]) [2] Tryd.func99 rfl rfl rfl rfl fun Q hret hnor=>?_
 refine w_q rfl rfl fun K1 k1=>?_
 refine l_A (iV (0)) rfl rfl ?_
 apply Ac
 apply k1
 refine w_q rfl rfl fun K2 k2=>?_
 refine l_A (iV (0)) rfl rfl ?_
 apply Ac
 apply k2
 refine Ai fun K3 k3=>?_
 refine Ao ?_
 refine Cc (fun mm ee dd ρ' σ'=>∃ (x:Nat) (c:Nat),(x) = mm∧[] = dd∧ρ = ρ'∧σ = σ'∧ee 0 = (iV ((x:Int)))∧ee 3 = (iV ((c:Int)))∧(c + x ≤ s)∧(c + De x = De s)∧True) (m:=_) ⟨s,0,rfl,rfl,rfl,rfl,rfl,rfl,(by omega),(Nat.zero_add _),trivial⟩ ?_
 rintro m4 e4 _ _ _ ⟨x,c,rfl,rfl,rfl,rfl,h4_0,h4_3,p4_0,p4_1,_⟩
 refine Ai fun K5 k5=>?_
 refine w_q rfl rfl fun K6 k6=>?_
 refine Aa rfl (Ah (v:=(iV ((x:Int)))) h4_0) ?_
 refine Aa rfl (Gk (p:=(x:Int)) (q:=0) rfl rfl) ?_
 apply Ac
 apply k6
 refine As (t:=decide ((x:Int) > 0)) rfl (fun b7=>?_) (fun b7=>?_)
 ·have q7:=of_decide_eq_true b7
  refine Al ?_
  apply k5
  refine Ao ?_
  refine w_q rfl rfl fun K8 k8=>?_
  refine Aa rfl (Ah (v:=(iV ((c:Int)))) h4_3) ?_
  refine Aa rfl (Ah (v:=(iV ((x:Int)))) h4_0) ?_
  refine Aa rfl (y_rem (p:=(x:Int)) (q:=2) rfl rfl (by omega) (z:=(((x % 2):Nat):Int)) rfl) ?_
  refine Aa rfl (Br (p:=(c:Int)) (q:=(((x % 2):Nat):Int)) rfl rfl (z:=(((c + (x % 2)):Nat):Int)) (Bo (by first | rfl | omega | (push_cast; rfl)) (by omega) (by omega))) ?_
  refine l_A (iV ((((c + (x % 2)):Nat):Int))) rfl rfl ?_
  apply Ac
  apply k8
  refine Ag rfl rfl ?_
  refine Aa rfl (Ah (v:=(iV ((x:Int)))) h4_0) ?_
  refine Aa rfl (y_quo (p:=(x:Int)) (q:=2) rfl rfl (by omega) (z:=(((x / 2):Nat):Int)) (Bo rfl (by omega) (by omega))) ?_
  refine l_A (iV ((((x / 2):Nat):Int))) rfl rfl ?_
  apply Ac
  refine ⟨_,?_,((x / 2)),((c + (x % 2))),rfl,rfl,rfl,rfl,rfl,rfl,(by omega),(by rw [← p4_1,pop8_step (x:=x) (by omega)]; omega),trivial⟩
  omega
 have q7:=of_decide_eq_false b7
 refine Bx ?_
 apply k3
 refine w_q rfl rfl fun K9 k9=>?_
 refine Aa rfl (Ah (v:=(iV ((c:Int)))) h4_3) ?_
 refine l_A (iV ((c:Int))) rfl rfl ?_
 apply Ac
 apply k9
 refine Aq ?_
 refine hret _ _ _ ?_
 refine ⟨rfl,rfl,Eq.trans (b:=(iV ((c:Int)))) rfl ?_⟩
 have hx:x = 0:=by omega
 subst hx
 rw [← p4_1,pop8_0,Nat.add_zero]
set_option maxRecDepth 100000 in
theorem c_Can {mn:Bool} {X:Frame→List Frame→Ro→Own→Cy→Prop} {ρ:Ro} {σ:Own} {t:FTest} {vt:Value} {s:Nat} {found:Bool} (rt:Val ρ vt t) (hs:s < 65536):CallsH (CX mn X) 107 #[vt,(iV ((s:Int))),(.bool (found))] ρ σ (fun w ρ' σ'=>ρ' = ρ∧σ' = σ∧w = (.bool (Afm t s found))):=by
 refine Bh (n:=46) (args:=[vt,(iV ((s:Int))),(.bool (found))]) [6] Tryd.func107 rfl rfl rfl rfl fun Q hret hnor=>?_
 refine w_q rfl rfl fun K1 k1=>?_
 refine Ae rfl (Eb (v:=vt) rfl fun k2=>?_)
 refine Bb (a:=t) rt fun ρ2 l2 r2=>?_
 replace rt:=Asa l2 rt
 refine l_A (.bool (false)) rfl rfl ?_
 apply Ac
 apply k1
 refine w_q rfl rfl fun K3 k3=>?_
 refine Ak rfl (Ay FTest.f_errs Tryd.underlying108 rfl rfl ty4 (by decide) rfl r2) fun v4 r4=>?_
 refine Aa rfl (Nw ty4 rfl r4) ?_
 refine l_A (.bool (t.errs)) rfl rfl ?_
 refine l_A (.bool (false)) rfl rfl ?_
 apply Ac
 apply k3
 refine Ai fun K6 k6=>?_
 refine w_q rfl rfl fun K7 k7=>?_
 refine l_A (iV (0)) rfl rfl ?_
 apply Ac
 apply k7
 refine Ao ?_
 refine Cc (fun mm ee dd ρ' σ'=>∃ (i:Nat) (so:Bool) (su:Bool),(t.sees.length - i) = mm∧[] = dd∧ρ2 = ρ'∧σ = σ'∧ee 1 = (iV ((s:Int)))∧ee 2 = (.bool (found))∧ee 3 = (.pointer (some ⟨k2,0,none⟩))∧ee 7 = (.bool (so))∧ee 8 = (.bool (su))∧ee 9 = (iV ((i:Int)))∧(i ≤ t.sees.length)∧(so = (t.errs || (List.range i).any (Ahz t s)))∧(su = (List.range i).any (Akd t s))∧True) (m:=_) ⟨0,t.errs,false,rfl,rfl,rfl,rfl,rfl,rfl,rfl,rfl,rfl,rfl,(Nat.zero_le _),(by simp),(by simp),trivial⟩ ?_
 rintro m8 e8 _ _ _ ⟨i,so,su,rfl,rfl,rfl,rfl,h8_1,h8_2,h8_3,h8_7,h8_8,h8_9,p8_0,p8_1,p8_2,_⟩
 refine Ai fun K9 k9=>?_
 refine w_q rfl rfl fun K10 k10=>?_
 refine Aa rfl (Ah (v:=(iV ((i:Int)))) h8_9) ?_
 refine Ak rfl (Ay FTest.f_sees Tryd.underlying108 rfl rfl Aex (by decide) h8_3 r2) fun v11 r11=>?_
 refine Ak rfl (Ax Aex rfl r11) fun v12 r12=>?_
 have g13:=Val.len r12
 refine Aa rfl (Ce (el:=53) Tryd.underlying46 rfl r12) ?_
 refine Aa rfl (Da (p:=(i:Int)) (q:=((t.sees.length:Nat):Int)) rfl rfl) ?_
 apply Ac
 apply k10
 refine As (t:=decide ((i:Int) < ((t.sees.length:Nat):Int))) rfl (fun b14=>?_) (fun b14=>?_)
 ·have q14:=of_decide_eq_true b14
  refine Al ?_
  apply k9
  refine Ai fun K15 k15=>?_
  refine Ao ?_
  refine w_q rfl rfl fun K16 k16=>?_
  refine Aa rfl (Ah (v:=(iV ((s:Int)))) h8_1) ?_
  refine Aa rfl (Ah (v:=(iV ((i:Int)))) h8_9) ?_
  refine Aa rfl (Jq (p:=s) (q:=i) rfl rfl rfl (by omega)) ?_
  refine Aa rfl (y_rem (p:=(((s >>> i):Nat):Int)) (q:=2) rfl rfl (by omega) (z:=((((s >>> i) % 2):Nat):Int)) rfl) ?_
  refine Aa rfl (Ek (p:=((((s >>> i) % 2):Nat):Int)) (q:=1) rfl rfl) ?_
  apply Ac
  apply k16
  refine As (t:=((((s >>> i) % 2):Nat):Int) == 1) rfl (fun b17=>?_) (fun b17=>?_)
  ·have q17:=Jo b17
   refine w_q rfl rfl fun K18 k18=>?_
   refine Aa rfl (Ah (v:=(.bool (so))) h8_7) ?_
   refine l_M (.bool (so)) rfl rfl ?_
   refine Cn (so) (fun b19=>?_) (fun b19=>?_)
   ·refine Ap (Bl rfl rfl rfl b19) ?_
    refine Ap (Bl rfl rfl rfl b19) ?_
    refine Ap (Bl rfl rfl rfl b19) ?_
    refine Ap (Bl rfl rfl rfl b19) ?_
    refine Ap (Bl rfl rfl rfl b19) ?_
    refine Ap (Bl rfl rfl rfl b19) ?_
    refine Aa rfl (Bt rfl b19 (v:=(.bool (true))) rfl) ?_
    refine l_A (.bool (true)) rfl rfl ?_
    apply Ac
    apply k18
    refine Ag rfl rfl ?_
    refine Aa rfl (Ah (v:=(.bool (su))) h8_8) ?_
    refine l_M (.bool (su)) rfl rfl ?_
    refine Cn (su) (fun b20=>?_) (fun b20=>?_)
    ·refine Ap (Bl rfl rfl rfl b20) ?_
     refine Ap (Bl rfl rfl rfl b20) ?_
     refine Ap (Bl rfl rfl rfl b20) ?_
     refine Ap (Bl rfl rfl rfl b20) ?_
     refine Ap (Bl rfl rfl rfl b20) ?_
     refine Ap (Bl rfl rfl rfl b20) ?_
     refine Aa rfl (Bt rfl b20 (v:=(.bool (true))) rfl) ?_
     refine l_A (.bool (true)) rfl rfl ?_
     apply Ac
     apply k15
     refine Ag rfl rfl ?_
     refine Aa rfl (Ah (v:=(iV ((i:Int)))) h8_9) ?_
     refine Aa rfl (Br (p:=(i:Int)) (q:=1) rfl rfl (z:=(((i + 1):Nat):Int)) (Bo (by first | rfl | omega | (push_cast; rfl)) (by omega) (by omega))) ?_
     refine l_A (iV ((((i + 1):Nat):Int))) rfl rfl ?_
     apply Ac
     refine ⟨_,?_,((i + 1)),(true),(true),rfl,rfl,rfl,rfl,h8_1,h8_2,h8_3,rfl,rfl,rfl,(by omega),(by rw [any_succ,← Bool.or_assoc,← p8_1]; simp [Ahz,Aql b17,b14,b17,b19,b20]),(by rw [any_succ,← p8_2]; simp [Akd,Aql b17,b14,b17,b19,b20]),trivial⟩
     omega
    refine Ak (Ar rfl rfl rfl b20) (Ay FTest.f_sees Tryd.underlying108 rfl rfl Aex (by decide) h8_3 r2) fun v21 r21=>?_
    refine Ak (Ar rfl rfl rfl b20) (Ax Aex rfl r21) fun v22 r22=>?_
    refine Aa (Ar rfl rfl rfl b20) (Ah (v:=(iV ((i:Int)))) h8_9) ?_
    obtain ⟨a24,ha24⟩:=Ed (xs:=t.sees) (i:=i) (by omega)
    refine Ak (Ar rfl rfl rfl b20) (Ci i Tryd.underlying46 Ov rfl r22 (q:=(i:Int)) rfl rfl ha24) fun v23 r23=>?_
    have ⟨g25a,g25b⟩:=At.rng r23
    refine Aa (Ar rfl rfl rfl b20) (Bc Ov rfl r23) ?_
    refine Aa (Ar rfl rfl rfl b20) (Ek (p:=a24) (q:=1) rfl rfl) ?_
    refine Aa rfl (Bm rfl b20 (v:=(.bool (a24 == 1))) rfl) ?_
    refine l_A (.bool (a24 == 1)) rfl rfl ?_
    apply Ac
    apply k15
    refine Ag rfl rfl ?_
    refine Aa rfl (Ah (v:=(iV ((i:Int)))) h8_9) ?_
    refine Aa rfl (Br (p:=(i:Int)) (q:=1) rfl rfl (z:=(((i + 1):Nat):Int)) (Bo (by first | rfl | omega | (push_cast; rfl)) (by omega) (by omega))) ?_
    refine l_A (iV ((((i + 1):Nat):Int))) rfl rfl ?_
    apply Ac
    refine ⟨_,?_,((i + 1)),(true),(a24 == 1),rfl,rfl,rfl,rfl,h8_1,h8_2,h8_3,rfl,rfl,rfl,(by omega),(by rw [any_succ,← Bool.or_assoc,← p8_1]; simp [Ahz,Aql b17,b14,b17,b19,b20,ha24]),(by rw [any_succ,← p8_2]; simp [Akd,Aql b17,b14,b17,b19,b20,ha24]),trivial⟩
    omega
   refine Ak (Ar rfl rfl rfl b19) (Ay FTest.f_sees Tryd.underlying108 rfl rfl Aex (by decide) h8_3 r2) fun v26 r26=>?_
   refine Ak (Ar rfl rfl rfl b19) (Ax Aex rfl r26) fun v27 r27=>?_
   refine Aa (Ar rfl rfl rfl b19) (Ah (v:=(iV ((i:Int)))) h8_9) ?_
   obtain ⟨a29,ha29⟩:=Ed (xs:=t.sees) (i:=i) (by omega)
   refine Ak (Ar rfl rfl rfl b19) (Ci i Tryd.underlying46 Ov rfl r27 (q:=(i:Int)) rfl rfl ha29) fun v28 r28=>?_
   have ⟨g30a,g30b⟩:=At.rng r28
   refine Aa (Ar rfl rfl rfl b19) (Bc Ov rfl r28) ?_
   refine Aa (Ar rfl rfl rfl b19) (Dg (p:=a29) (q:=2) rfl rfl) ?_
   refine Aa rfl (Bm rfl b19 (v:=(.bool (a29 != 2))) rfl) ?_
   refine l_A (.bool (a29 != 2)) rfl rfl ?_
   apply Ac
   apply k18
   refine Ag rfl rfl ?_
   refine Aa rfl (Ah (v:=(.bool (su))) h8_8) ?_
   refine l_M (.bool (su)) rfl rfl ?_
   refine Cn (su) (fun b31=>?_) (fun b31=>?_)
   ·refine Ap (Bl rfl rfl rfl b31) ?_
    refine Ap (Bl rfl rfl rfl b31) ?_
    refine Ap (Bl rfl rfl rfl b31) ?_
    refine Ap (Bl rfl rfl rfl b31) ?_
    refine Ap (Bl rfl rfl rfl b31) ?_
    refine Ap (Bl rfl rfl rfl b31) ?_
    refine Aa rfl (Bt rfl b31 (v:=(.bool (true))) rfl) ?_
    refine l_A (.bool (true)) rfl rfl ?_
    apply Ac
    apply k15
    refine Ag rfl rfl ?_
    refine Aa rfl (Ah (v:=(iV ((i:Int)))) h8_9) ?_
    refine Aa rfl (Br (p:=(i:Int)) (q:=1) rfl rfl (z:=(((i + 1):Nat):Int)) (Bo (by first | rfl | omega | (push_cast; rfl)) (by omega) (by omega))) ?_
    refine l_A (iV ((((i + 1):Nat):Int))) rfl rfl ?_
    apply Ac
    refine ⟨_,?_,((i + 1)),(a29 != 2),(true),rfl,rfl,rfl,rfl,h8_1,h8_2,h8_3,rfl,rfl,rfl,(by omega),(by rw [any_succ,← Bool.or_assoc,← p8_1]; simp [Ahz,Aql b17,b14,b17,b19,b31,ha29]),(by rw [any_succ,← p8_2]; simp [Akd,Aql b17,b14,b17,b19,b31,ha29]),trivial⟩
    omega
   refine Ak (Ar rfl rfl rfl b31) (Ay FTest.f_sees Tryd.underlying108 rfl rfl Aex (by decide) h8_3 r2) fun v32 r32=>?_
   refine Ak (Ar rfl rfl rfl b31) (Ax Aex rfl r32) fun v33 r33=>?_
   refine Aa (Ar rfl rfl rfl b31) (Ah (v:=(iV ((i:Int)))) h8_9) ?_
   refine Ak (Ar rfl rfl rfl b31) (Ci i Tryd.underlying46 Ov rfl r33 (q:=(i:Int)) rfl rfl ha29) fun v34 r34=>?_
   have ⟨g35a,g35b⟩:=At.rng r34
   refine Aa (Ar rfl rfl rfl b31) (Bc Ov rfl r34) ?_
   refine Aa (Ar rfl rfl rfl b31) (Ek (p:=a29) (q:=1) rfl rfl) ?_
   refine Aa rfl (Bm rfl b31 (v:=(.bool (a29 == 1))) rfl) ?_
   refine l_A (.bool (a29 == 1)) rfl rfl ?_
   apply Ac
   apply k15
   refine Ag rfl rfl ?_
   refine Aa rfl (Ah (v:=(iV ((i:Int)))) h8_9) ?_
   refine Aa rfl (Br (p:=(i:Int)) (q:=1) rfl rfl (z:=(((i + 1):Nat):Int)) (Bo (by first | rfl | omega | (push_cast; rfl)) (by omega) (by omega))) ?_
   refine l_A (iV ((((i + 1):Nat):Int))) rfl rfl ?_
   apply Ac
   refine ⟨_,?_,((i + 1)),(a29 != 2),(a29 == 1),rfl,rfl,rfl,rfl,h8_1,h8_2,h8_3,rfl,rfl,rfl,(by omega),(by rw [any_succ,← Bool.or_assoc,← p8_1]; simp [Ahz,Aql b17,b14,b17,b19,b31,ha29]),(by rw [any_succ,← p8_2]; simp [Akd,Aql b17,b14,b17,b19,b31,ha29]),trivial⟩
   omega
  have q17:=La b17
  refine Al ?_
  apply k15
  refine Ag rfl rfl ?_
  refine Aa rfl (Ah (v:=(iV ((i:Int)))) h8_9) ?_
  refine Aa rfl (Br (p:=(i:Int)) (q:=1) rfl rfl (z:=(((i + 1):Nat):Int)) (Bo (by first | rfl | omega | (push_cast; rfl)) (by omega) (by omega))) ?_
  refine l_A (iV ((((i + 1):Nat):Int))) rfl rfl ?_
  apply Ac
  refine ⟨_,?_,((i + 1)),(so),(su),rfl,rfl,rfl,rfl,h8_1,h8_2,h8_3,h8_7,h8_8,rfl,(by omega),(by rw [any_succ,← Bool.or_assoc,← p8_1]; simp [Ahz,Aqp b17,b14,b17]),(by rw [any_succ,← p8_2]; simp [Akd,Aqp b17,b14,b17]),trivial⟩
  omega
 have q14:=of_decide_eq_false b14
 refine Bx ?_
 apply k6
 refine Ai fun K36 k36=>?_
 refine w_q rfl rfl fun K37 k37=>?_
 refine Aa rfl (Ah (v:=(.bool (found))) h8_2) ?_
 apply Ac
 apply k37
 refine As (t:=found) rfl (fun b38=>?_) (fun b38=>?_)
 ·refine w_q rfl rfl fun K39 k39=>?_
  refine Aa rfl (Ah (v:=(.bool (so))) h8_7) ?_
  refine l_A (.bool (so)) rfl rfl ?_
  apply Ac
  apply k39
  refine Aj (Arw l2) ?_
  refine Aq ?_
  refine hret _ _ _ ?_
  refine ⟨rfl,rfl,Eq.trans (b:=(.bool (so))) rfl ?_⟩
  have hi:i = t.sees.length:=by omega
  subst hi
  simp only [Afm,b14,b38,if_true,Bool.false_eq_true,if_false,p8_1,p8_2]
 refine Al ?_
 apply k36
 refine w_q rfl rfl fun K40 k40=>?_
 refine Aa rfl (Ah (v:=(.bool (su))) h8_8) ?_
 refine Aa rfl (Ix (k:=su) rfl) ?_
 refine l_A (.bool (!(su))) rfl rfl ?_
 apply Ac
 apply k40
 refine Aj (Arw l2) ?_
 refine Aq ?_
 refine hret _ _ _ ?_
 refine ⟨rfl,rfl,Eq.trans (b:=(.bool (!(su)))) rfl ?_⟩
 have hi:i = t.sees.length:=by omega
 subst hi
 simp only [Afm,b14,b38,if_true,Bool.false_eq_true,if_false,p8_1,p8_2]
end Go.Proofs.YtoefdnbaklajeaaDoor

namespace Go.Proofs.YtoefdnbaklajeaaDoor
open Go
theorem ints_filter_succ {p:Nat→Bool} {i:Nat}:Bw ((List.range (i + 1)).filter p) = Bw ((List.range i).filter p) ++ (if p i then [(i:Int)] else []):=by
  unfold Bw
  rw [List.range_succ,List.filter_append,List.map_append]
  congr 1
  cases h:p i <;> simp [List.filter,h]
theorem ints_take_succ {p:Nat→Bool} {l:List Nat} {i a:Nat} (h:l[i]? = some a):Bw ((l.take (i + 1)).filter p) = Bw ((l.take i).filter p) ++ (if p a then [(a:Int)] else []):=by
  unfold Bw
  rw [List.take_add_one,h,List.filter_append,List.map_append]
  congr 1
  cases h:p a <;> simp [List.filter,h]
end Go.Proofs.YtoefdnbaklajeaaDoor

namespace Go.Proofs.YtoefdnbaklajeaaDoor
open Go
set_option maxRecDepth 100000 in
theorem c_refSets {mn:Bool} {X:Frame→List Frame→Ro→Own→Cy→Prop} {ρ:Ro} {σ:Own} {l:Lab} {vl:Value} (rl:Val ρ vl l) (ok:LabOk l):CallsH (CX mn X) 101 #[vl] ρ σ (fun w ρ' σ'=>Ro.le ρ ρ'∧σ' = σ∧Val ρ' w (Bw (Hk l):List Int)):=by
 have hk:=ok.n4
 have hsm:=Rj hk
 refine Bh (n:=23) (args:=[vl]) [2] Tryd.func101 rfl rfl rfl rfl fun Q hret hnor=>?_
 refine w_q rfl rfl fun K1 k1=>?_
 refine Ae rfl (Eb (v:=vl) rfl fun k2=>?_)
 refine Bb (a:=l) rl fun ρ2 l2 r2=>?_
 replace rl:=Asa l2 rl
 refine l_A (.slice none 0 0) rfl rfl ?_
 apply Ac
 apply k1
 refine w_q rfl rfl fun K3 k3=>?_
 refine l_A (.slice none 0 0) rfl rfl ?_
 apply Ac
 apply k3
 refine Ai fun K4 k4=>?_
 refine w_q rfl rfl fun K5 k5=>?_
 refine l_A (iV (0)) rfl rfl ?_
 apply Ac
 apply k5
 refine Ao ?_
 refine Cc (fun mm ee dd ρ' σ'=>∃ (i:Nat) (ov6_3:Value) (og6_3:Own),(1 <<< l.kinds.length - i) = mm∧[] = dd∧Ro.le ρ2 ρ'∧(og6_3 ++ σ) = σ'∧ee 1 = (.pointer (some ⟨k2,0,none⟩))∧ee 3 = ov6_3∧ee 4 = (iV ((i:Int)))∧(i ≤ 1 <<< l.kinds.length)∧Grow ρ' 3 ov6_3 (Bw ((List.range i).filter (Adf l))) og6_3∧True) (m:=_) ⟨0,(.slice none 0 0),[],rfl,rfl,Ary,rfl,rfl,rfl,rfl,(Nat.zero_le _),Hn,trivial⟩ ?_
 rintro m6 e6 _ ρ6 _ ⟨i,ov6_3,og6_3,rfl,rfl,l6,rfl,h6_1,h6_3,h6_4,p6_0,OG6_3,_⟩
 replace r2:=Arv l6 r2
 refine Ai fun K7 k7=>?_
 refine w_q rfl rfl fun K8 k8=>?_
 refine Aa rfl (Ah (v:=(iV ((i:Int)))) h6_4) ?_
 refine Ak rfl (Ay Lab.f_kinds Tryd.underlying40 rfl rfl Hu (by decide) h6_1 r2) fun v9 r9=>?_
 refine Ak rfl (Ax Hu rfl r9) fun v10 r10=>?_
 have g11:=Val.len r10
 refine Aa rfl (Ce (el:=9) Tryd.underlying22 rfl r10) ?_
 refine Aa rfl (Ly (p:=1) (q:=l.kinds.length) rfl rfl rfl (by omega) (z:=(((1 <<< l.kinds.length):Nat):Int)) (Bo rfl (by omega) (by omega))) ?_
 refine Aa rfl (Da (p:=(i:Int)) (q:=(((1 <<< l.kinds.length):Nat):Int)) rfl rfl) ?_
 apply Ac
 apply k8
 refine As (t:=decide ((i:Int) < (((1 <<< l.kinds.length):Nat):Int))) rfl (fun b12=>?_) (fun b12=>?_)
 ·have q12:=of_decide_eq_true b12
  refine Al ?_
  apply k7
  refine Ai fun K13 k13=>?_
  refine Ao ?_
  refine Ai fun K14 k14=>?_
  refine Dc [0,1,2,3,4] (by kernel_rfl) rfl rfl ?_
  refine Be (i:=0) [o1,o0,o0,o0,o0] rfl (by kernel_rfl) rfl Ary rfl (Ah (v:=(iV ((i:Int)))) h6_4) ?_
  refine Cd (i:=2) [o1,o0,o1,o0,o0] rfl (by kernel_rfl) rfl Ary rfl (Ay Lab.f_most Tryd.underlying40 rfl rfl ty3 (by decide) h6_1 r2) fun v15 r15=>?_
  have ⟨g16a,g16b⟩:=At.rng r15
  refine Be (i:=3) [o1,o0,o1,o1,o0] rfl (by kernel_rfl) rfl Ary rfl (Bc ty3 rfl r15) ?_
  refine Dj (i:=1) [o1,o1,o1,o1,o0] rfl (by kernel_rfl) rfl rfl (Bn (vs:=[(iV ((i:Int)))]) (v:=(iV (((De i:Nat):Int)))) (c_size (by omega)) Tryd.func99 rfl rfl ⟨rfl,trivial⟩ ⟨Ary,?_⟩)
  refine Bg (i:=4) [o1,o1,o1,o1,o1] rfl (by kernel_rfl) rfl Ary rfl (Tx (p:=((De i:Nat):Int)) (q:=l.most) rfl rfl) ?_
  refine Ec rfl ?_
  apply k14
  refine As (t:=decide (((De i:Nat):Int) ≤ l.most)) rfl (fun b17=>?_) (fun b17=>?_)
  ·have q17:=of_decide_eq_true b17
   refine Ag rfl rfl ?_
   refine Aa rfl (Ah (v:=ov6_3) h6_3) ?_
   refine Aa rfl (Ah (v:=(iV ((i:Int)))) h6_4) ?_
   refine Ae rfl (Bi (α:=Int) (xs:=[(i:Int)]) (vs:=[(iV ((i:Int)))]) Tryd.underlying30 ty3 zr3 rfl (by decide) (Dl (os:=[.tmp 19]) ⟨rfl,trivial⟩) ⟨(Cv.2 ⟨rfl,by constructor <;> omega⟩),trivial⟩ rfl (by decide) fun k18 cs18 R18=>?_)
   have G18:Grow ρ6 3 (.slice (some ⟨k18,0,none⟩) 1 1) ([(i:Int)]:List Int) [(k18,.obj (.cells cs18.toArray 3 (0,0)))]:=Bs R18 rfl (by decide)
   refine Ca G18 fun ρ20 l20 r20=>?_
   replace r2:=Arv l20 r2
   replace OG6_3:=Grow.mono l20 OG6_3
   refine Ae rfl (Fx (σ:=σ) (gr:=og6_3) (xs:=Bw ((List.range i).filter (Adf l))) (ys:=([(i:Int)]:List Int)) Tryd.underlying30 Tryd.underlying30 (Ab Tryd.typeInfo3) rfl (Nat.le_of_ble_eq_true rfl) rfl rfl rfl rfl OG6_3 r20 (by have h1:=List.length_filter_le (Adf l) (List.range i); simp only [Fe,List.length_append,List.length_cons,List.length_nil,List.length_range,List.length_take] at *; omega) fun v19 gr19 G19=>?_)
   refine l_A v19 rfl rfl ?_
   apply Ac
   apply k13
   refine Ag rfl rfl ?_
   refine Aa rfl (Ah (v:=(iV ((i:Int)))) h6_4) ?_
   refine Aa rfl (Br (p:=(i:Int)) (q:=1) rfl rfl (z:=(((i + 1):Nat):Int)) (Bo (by first | rfl | omega | (push_cast; rfl)) (by omega) (by omega))) ?_
   refine l_A (iV ((((i + 1):Nat):Int))) rfl rfl ?_
   apply Ac
   refine ⟨_,?_,((i + 1)),v19,gr19,rfl,rfl,(Arz l6 l20),rfl,h6_1,rfl,rfl,(by omega),(Ga (by rw [ints_filter_succ]; simp [Adf,b12,b17]) G19),trivial⟩
   omega
  have q17:=of_decide_eq_false b17
  refine Al ?_
  apply k13
  refine Ag rfl rfl ?_
  refine Aa rfl (Ah (v:=(iV ((i:Int)))) h6_4) ?_
  refine Aa rfl (Br (p:=(i:Int)) (q:=1) rfl rfl (z:=(((i + 1):Nat):Int)) (Bo (by first | rfl | omega | (push_cast; rfl)) (by omega) (by omega))) ?_
  refine l_A (iV ((((i + 1):Nat):Int))) rfl rfl ?_
  apply Ac
  refine ⟨_,?_,((i + 1)),ov6_3,og6_3,rfl,rfl,l6,rfl,h6_1,h6_3,rfl,(by omega),(Ga (by rw [ints_filter_succ]; simp [Adf,b12,b17]) OG6_3),trivial⟩
  omega
 have q12:=of_decide_eq_false b12
 refine Bx ?_
 apply k4
 refine w_q rfl rfl fun K21 k21=>?_
 refine Aa rfl (Ah (v:=ov6_3) h6_3) ?_
 refine l_A ov6_3 rfl rfl ?_
 apply Ac
 apply k21
 refine Gy OG6_3 fun ρ22 l22 r22=>?_
 refine Aq ?_
 refine hret _ _ _ ?_
 refine ⟨(Arz (Arz l2 l6) l22),rfl,Aci (v:=ov6_3) rfl (Val.cast ?_ r22)⟩
 ·have hi:i = 1 <<< l.kinds.length:=by omega
  rw [hi]; rfl
set_option maxRecDepth 100000 in
theorem c_refafter {mn:Bool} {X:Frame→List Frame→Ro→Own→Cy→Prop} {ρ:Ro} {σ:Own} {l:Lab} {vl vs vr:Value} {sets:List Nat} {r:Found} (rl:Val ρ vl l) (rs:Val ρ vs (Bw sets)) (rr:Val ρ vr r) (hr:0 ≤ r.test∧r.test < (l.tests.length:Int)) (hs:∀ a ∈ sets,a < 16) (hl:sets.length ≤ 16):CallsH (CX mn X) 108 #[vl,vs,vr] ρ σ (fun w ρ' σ'=>Ro.le ρ ρ'∧σ' = σ∧Val ρ' w (Bw (Au l sets r):List Int)):=by
 have hl2:=Fe (l:=sets)
 refine Bh (n:=36) (args:=[vl,vs,vr]) [6] Tryd.func108 rfl rfl rfl rfl fun Q hret hnor=>?_
 refine w_q rfl rfl fun K1 k1=>?_
 refine Ae rfl (Eb (v:=vl) rfl fun k2=>?_)
 refine Bb (a:=l) rl fun ρ2 l2 r2=>?_
 replace rl:=Asa l2 rl
 replace rs:=Asa l2 rs
 replace rr:=Asa l2 rr
 refine Ae rfl (Eb (v:=vr) rfl fun k3=>?_)
 refine Bb (a:=r) rr fun ρ3 l3 r3=>?_
 replace rl:=Asa l3 rl
 replace rs:=Asa l3 rs
 replace rr:=Asa l3 rr
 replace r2:=Arv l3 r2
 refine l_A (.slice none 0 0) rfl rfl ?_
 apply Ac
 apply k1
 refine w_q rfl rfl fun K4 k4=>?_
 refine l_A (.slice none 0 0) rfl rfl ?_
 apply Ac
 apply k4
 refine Ai fun K5 k5=>?_
 refine w_q rfl rfl fun K6 k6=>?_
 refine l_A (iV (0)) rfl rfl ?_
 apply Ac
 apply k6
 refine Ao ?_
 refine Cc (fun mm ee dd ρ' σ'=>∃ (i:Nat) (ov7_7:Value) (og7_7:Own),(sets.length - i) = mm∧[] = dd∧Ro.le ρ3 ρ'∧(og7_7 ++ σ) = σ'∧ee 1 = vs∧ee 3 = (.pointer (some ⟨k2,0,none⟩))∧ee 5 = (.pointer (some ⟨k3,0,none⟩))∧ee 7 = ov7_7∧ee 8 = (iV ((i:Int)))∧(i ≤ sets.length)∧Grow ρ' 3 ov7_7 (Bw ((sets.take i).filter (Qg l r))) og7_7∧True) (m:=_) ⟨0,(.slice none 0 0),[],rfl,rfl,Ary,rfl,rfl,rfl,rfl,rfl,rfl,(Nat.zero_le _),Hn,trivial⟩ ?_
 rintro m7 e7 _ ρ7 _ ⟨i,ov7_7,og7_7,rfl,rfl,l7,rfl,h7_1,h7_3,h7_5,h7_7,h7_8,p7_0,OG7_7,_⟩
 replace rs:=Asa l7 rs
 replace r2:=Arv l7 r2
 replace r3:=Arv l7 r3
 refine Ai fun K8 k8=>?_
 refine w_q rfl rfl fun K9 k9=>?_
 refine Aa rfl (Ah (v:=(iV ((i:Int)))) h7_8) ?_
 refine Aa rfl (Ah (v:=vs) h7_1) ?_
 have g10:=Val.len rs
 refine Aa rfl (Ce (el:=3) Tryd.underlying30 rfl rs) ?_
 refine Aa rfl (Da (p:=(i:Int)) (q:=(((Bw sets).length:Nat):Int)) rfl rfl) ?_
 apply Ac
 apply k9
 refine As (t:=decide ((i:Int) < (((Bw sets).length:Nat):Int))) rfl (fun b11=>?_) (fun b11=>?_)
 ·have q11:=of_decide_eq_true b11
  refine Al ?_
  apply k8
  refine Ai fun K12 k12=>?_
  refine Ao ?_
  refine Ai fun K13 k13=>?_
  refine Dc [0,1,2,3,4,5,6,7,8,9,10,11,12] (by kernel_rfl) rfl rfl ?_
  refine Cd (i:=0) [o1,o0,o0,o0,o0,o0,o0,o0,o0,o0,o0,o0,o0] rfl (by kernel_rfl) rfl Ary rfl (Ay Lab.f_tests Tryd.underlying40 rfl rfl Vd (by decide) h7_3 r2) fun v14 r14=>?_
  refine Cd (i:=1) [o1,o1,o0,o0,o0,o0,o0,o0,o0,o0,o0,o0,o0] rfl (by kernel_rfl) rfl Ary rfl (Ax Vd rfl r14) fun v15 r15=>?_
  refine Cd (i:=2) [o1,o1,o1,o0,o0,o0,o0,o0,o0,o0,o0,o0,o0] rfl (by kernel_rfl) rfl Ary rfl (Ay Found.f_test Tryd.underlying43 rfl rfl ty3 (by decide) h7_5 r3) fun v16 r16=>?_
  have ⟨g17a,g17b⟩:=At.rng r16
  refine Be (i:=3) [o1,o1,o1,o1,o0,o0,o0,o0,o0,o0,o0,o0,o0] rfl (by kernel_rfl) rfl Ary rfl (Bc ty3 rfl r16) ?_
  obtain ⟨a19,ha19⟩:=Ed (xs:=l.tests) (i:=(r.test).toNat) (by omega)
  refine Cd (i:=4) [o1,o1,o1,o1,o1,o0,o0,o0,o0,o0,o0,o0,o0] rfl (by kernel_rfl) rfl Ary rfl (Ci ((r.test).toNat) Tryd.underlying38 Td rfl r15 (q:=r.test) rfl (by omega) ha19) fun v18 r18=>?_
  refine Cd (i:=5) [o1,o1,o1,o1,o1,o1,o0,o0,o0,o0,o0,o0,o0] rfl (by kernel_rfl) rfl Ary rfl (Ax Td rfl r18) fun v20 r20=>?_
  refine Be (i:=6) [o1,o1,o1,o1,o1,o1,o1,o0,o0,o0,o0,o0,o0] rfl (by kernel_rfl) rfl Ary rfl (Ah (v:=vs) h7_1) ?_
  refine Be (i:=7) [o1,o1,o1,o1,o1,o1,o1,o1,o0,o0,o0,o0,o0] rfl (by kernel_rfl) rfl Ary rfl (Ah (v:=(iV ((i:Int)))) h7_8) ?_
  obtain ⟨a22,ha22⟩:=Ed (xs:=Bw sets) (i:=i) (by omega)
  obtain ⟨b23,hb23,hz23⟩:=Uc ha22
  subst hz23
  have hq23:=hs b23 (List.mem_of_getElem? hb23)
  refine Cd (i:=8) [o1,o1,o1,o1,o1,o1,o1,o1,o1,o0,o0,o0,o0] rfl (by kernel_rfl) rfl Ary rfl (Ci i Tryd.underlying30 ty3 rfl rs (q:=(i:Int)) rfl rfl ha22) fun v21 r21=>?_
  have ⟨g24a,g24b⟩:=At.rng r21
  refine Be (i:=9) [o1,o1,o1,o1,o1,o1,o1,o1,o1,o1,o0,o0,o0] rfl (by kernel_rfl) rfl Ary rfl (Bc ty3 rfl r21) ?_
  refine Hl (i:=10) [o1,o1,o1,o1,o1,o1,o1,o1,o1,o1,o1,o0,o0] rfl (by kernel_rfl) rfl Ary rfl (Ay Found.f_found Tryd.underlying43 rfl rfl ty4 (by decide) h7_5 r3) fun v25 r25=>?_
  refine Bg (i:=11) [o1,o1,o1,o1,o1,o1,o1,o1,o1,o1,o1,o1,o0] rfl (by kernel_rfl) rfl Ary rfl (Nw ty4 rfl r25) ?_
  refine Dj (i:=12) [o1,o1,o1,o1,o1,o1,o1,o1,o1,o1,o1,o1,o1] rfl (by kernel_rfl) rfl rfl (Bn (vs:=[v20,(iV ((b23:Int))),(.bool (r.found))]) (v:=(.bool (Afm a19 b23 r.found))) (c_Can r20 (by omega)) Tryd.func107 rfl rfl ⟨rfl,rfl,rfl,trivial⟩ ⟨Ary,?_⟩)
  refine Ec rfl ?_
  apply k13
  refine As (t:=Afm a19 b23 r.found) rfl (fun b27=>?_) (fun b27=>?_)
  ·refine Ag rfl rfl ?_
   refine Aa rfl (Ah (v:=ov7_7) h7_7) ?_
   refine Aa rfl (Ah (v:=vs) h7_1) ?_
   refine Aa rfl (Ah (v:=(iV ((i:Int)))) h7_8) ?_
   refine Ak rfl (Ci i Tryd.underlying30 ty3 rfl rs (q:=(i:Int)) rfl rfl ha22) fun v28 r28=>?_
   have ⟨g29a,g29b⟩:=At.rng r28
   refine Aa rfl (Bc ty3 rfl r28) ?_
   refine Ae rfl (Bi (α:=Int) (xs:=[(b23:Int)]) (vs:=[(iV ((b23:Int)))]) Tryd.underlying30 ty3 zr3 rfl (by decide) (Dl (os:=[.tmp 32]) ⟨rfl,trivial⟩) ⟨(Cv.2 ⟨rfl,by constructor <;> omega⟩),trivial⟩ rfl (by decide) fun k30 cs30 R30=>?_)
   have G30:Grow ρ7 3 (.slice (some ⟨k30,0,none⟩) 1 1) ([(b23:Int)]:List Int) [(k30,.obj (.cells cs30.toArray 3 (0,0)))]:=Bs R30 rfl (by decide)
   refine Ca G30 fun ρ32 l32 r32=>?_
   replace rs:=Asa l32 rs
   replace r2:=Arv l32 r2
   replace r3:=Arv l32 r3
   replace OG7_7:=Grow.mono l32 OG7_7
   replace r28:=Arv l32 r28
   refine Ae rfl (Fx (σ:=σ) (gr:=og7_7) (xs:=Bw ((sets.take i).filter (Qg l r))) (ys:=([(b23:Int)]:List Int)) Tryd.underlying30 Tryd.underlying30 (Ab Tryd.typeInfo3) rfl (Nat.le_of_ble_eq_true rfl) rfl rfl rfl rfl OG7_7 r32 (by have h1:=List.length_filter_le (Qg l r) (sets.take i); simp only [Fe,List.length_append,List.length_cons,List.length_nil,List.length_range,List.length_take] at *; omega) fun v31 gr31 G31=>?_)
   refine l_A v31 rfl rfl ?_
   apply Ac
   apply k12
   refine Ag rfl rfl ?_
   refine Aa rfl (Ah (v:=(iV ((i:Int)))) h7_8) ?_
   refine Aa rfl (Br (p:=(i:Int)) (q:=1) rfl rfl (z:=(((i + 1):Nat):Int)) (Bo (by first | rfl | omega | (push_cast; rfl)) (by omega) (by omega))) ?_
   refine l_A (iV ((((i + 1):Nat):Int))) rfl rfl ?_
   apply Ac
   refine ⟨_,?_,((i + 1)),v31,gr31,rfl,rfl,(Arz l7 l32),rfl,h7_1,h7_3,h7_5,rfl,rfl,(by omega),(Ga (by rw [ints_take_succ hb23]; simp [Qg,ha19,b11,b27]) G31),trivial⟩
   omega
  refine Al ?_
  apply k12
  refine Ag rfl rfl ?_
  refine Aa rfl (Ah (v:=(iV ((i:Int)))) h7_8) ?_
  refine Aa rfl (Br (p:=(i:Int)) (q:=1) rfl rfl (z:=(((i + 1):Nat):Int)) (Bo (by first | rfl | omega | (push_cast; rfl)) (by omega) (by omega))) ?_
  refine l_A (iV ((((i + 1):Nat):Int))) rfl rfl ?_
  apply Ac
  refine ⟨_,?_,((i + 1)),ov7_7,og7_7,rfl,rfl,l7,rfl,h7_1,h7_3,h7_5,h7_7,rfl,(by omega),(Ga (by rw [ints_take_succ hb23]; simp [Qg,ha19,b11,b27]) OG7_7),trivial⟩
  omega
 have q11:=of_decide_eq_false b11
 refine Bx ?_
 apply k5
 refine w_q rfl rfl fun K33 k33=>?_
 refine Aa rfl (Ah (v:=ov7_7) h7_7) ?_
 refine l_A ov7_7 rfl rfl ?_
 apply Ac
 apply k33
 refine Gy OG7_7 fun ρ34 l34 r34=>?_
 refine Aq ?_
 refine hret _ _ _ ?_
 refine ⟨(Arz (Arz (Arz l2 l3) l7) l34),rfl,Aci (v:=ov7_7) rfl (Val.cast ?_ r34)⟩
 ·rw [List.take_of_length_le (by omega)]; rfl
set_option maxRecDepth 100000 in
theorem c_refRemain {mn:Bool} {X:Frame→List Frame→Ro→Own→Cy→Prop} {ρ:Ro} {σ:Own} {l:Lab} {vl vr:Value} {rs:List Found} (rl:Val ρ vl l) (rr:Val ρ vr rs) (ok:LabOk l) (hrs:∀ (i:Nat) (r:Found),rs[i]? = some r→0 ≤ r.test∧r.test < (l.tests.length:Int)):CallsH (CX mn X) 55 #[vl,vr] ρ σ (fun w ρ' σ'=>Ro.le ρ ρ'∧σ' = σ∧Val ρ' w (Bw (Ba l rs):List Int)):=by
 refine Bh (n:=23) (args:=[vl,vr]) [4] Tryd.func55 rfl rfl rfl rfl fun Q hret hnor=>?_
 refine w_q rfl rfl fun K1 k1=>?_
 refine Ae rfl (Eb (v:=vl) rfl fun k2=>?_)
 refine Bb (a:=l) rl fun ρ2 l2 r2=>?_
 replace rl:=Asa l2 rl
 replace rr:=Asa l2 rr
 refine l_A (.slice none 0 0) rfl rfl ?_
 apply Ac
 apply k1
 refine w_q rfl rfl fun K3 k3=>?_
 refine Ak rfl (Ax Aaj rfl r2) fun v4 r4=>?_
 refine Ae rfl (Cm (vs:=[v4]) (c_refSets r4 ok) Tryd.func101 rfl rfl ⟨rfl,trivial⟩ fun v5 ρ5 σ5 hc5=>?_)
 obtain ⟨l5,s5,r5⟩:=hc5
 replace s5:=s5.symm; subst s5
 replace rr:=Asa l5 rr
 replace r2:=Arv l5 r2
 replace r4:=Asa l5 r4
 refine l_A v5 rfl rfl ?_
 apply Ac
 apply k3
 refine Ai fun K6 k6=>?_
 refine w_q rfl rfl fun K7 k7=>?_
 refine l_A (iV (0)) rfl rfl ?_
 apply Ac
 apply k7
 refine Ao ?_
 refine Cc (fun mm ee dd ρ' σ'=>∃ (i:Nat) (vv8_5:Value),(rs.length - i) = mm∧[] = dd∧Ro.le ρ5 ρ'∧σ = σ'∧ee 1 = vr∧ee 2 = (.pointer (some ⟨k2,0,none⟩))∧ee 5 = vv8_5∧ee 6 = (iV ((i:Int)))∧(i ≤ rs.length)∧Val ρ' vv8_5 (Bw (Ba l (rs.take i)):List Int)∧True) (m:=_) ⟨0,v5,rfl,rfl,Ary,rfl,rfl,rfl,rfl,rfl,(Nat.zero_le _),(Val.cast (rfl) r5),trivial⟩ ?_
 rintro m8 e8 _ ρ8 _ ⟨i,vv8_5,rfl,rfl,l8,rfl,h8_1,h8_2,h8_5,h8_6,p8_0,VV8_5,_⟩
 replace rr:=Asa l8 rr
 replace r2:=Arv l8 r2
 refine Ai fun K9 k9=>?_
 refine w_q rfl rfl fun K10 k10=>?_
 refine Aa rfl (Ah (v:=(iV ((i:Int)))) h8_6) ?_
 refine Aa rfl (Ah (v:=vr) h8_1) ?_
 have g11:=Val.len rr
 refine Aa rfl (Ce (el:=43) Tryd.underlying41 rfl rr) ?_
 refine Aa rfl (Da (p:=(i:Int)) (q:=((rs.length:Nat):Int)) rfl rfl) ?_
 apply Ac
 apply k10
 refine As (t:=decide ((i:Int) < ((rs.length:Nat):Int))) rfl (fun b12=>?_) (fun b12=>?_)
 ·have q12:=of_decide_eq_true b12
  refine Al ?_
  apply k9
  refine Ai fun K13 k13=>?_
  refine Ao ?_
  refine Dc [0,1,2,3,4,5,6,7] (by kernel_rfl) rfl rfl ?_
  refine Cd (i:=0) [o1,o0,o0,o0,o0,o0,o0,o0] rfl (by kernel_rfl) rfl Ary rfl (Ax Aaj h8_2 r2) fun v14 r14=>?_
  refine Be (i:=1) [o1,o1,o0,o0,o0,o0,o0,o0] rfl (by kernel_rfl) rfl Ary rfl (Ah (v:=vv8_5) h8_5) ?_
  refine Be (i:=2) [o1,o1,o1,o0,o0,o0,o0,o0] rfl (by kernel_rfl) rfl Ary rfl (Ah (v:=vr) h8_1) ?_
  refine Bg (i:=3) [o1,o1,o1,o1,o0,o0,o0,o0] rfl (by kernel_rfl) rfl Ary rfl (Ah (v:=(iV ((i:Int)))) h8_6) ?_
  obtain ⟨a16,ha16⟩:=Ed (xs:=rs) (i:=i) (by omega)
  refine Hl (i:=4) [o1,o1,o1,o1,o1,o0,o0,o0] rfl (by kernel_rfl) rfl Ary rfl (Ci i Tryd.underlying41 Aax rfl rr (q:=(i:Int)) rfl rfl ha16) fun v15 r15=>?_
  refine Hl (i:=5) [o1,o1,o1,o1,o1,o1,o0,o0] rfl (by kernel_rfl) rfl Ary rfl (Ax Aax rfl r15) fun v17 r17=>?_
  refine Dj (i:=6) [o1,o1,o1,o1,o1,o1,o1,o0] rfl (by kernel_rfl) rfl rfl (Cm (vs:=[v14,vv8_5,v17]) (c_refafter (sets:=(Ba l (rs.take i))) r14 VV8_5 r17 (hrs _ _ ha16) (Qp ok).2 (Qp ok).1) Tryd.func108 rfl rfl ⟨rfl,rfl,rfl,trivial⟩ fun v18 ρ18 σ18 hc18=>?_)
  obtain ⟨l18,s18,r18⟩:=hc18
  replace s18:=s18.symm; subst s18
  replace rr:=Asa l18 rr
  replace r2:=Arv l18 r2
  replace VV8_5:=Asa l18 VV8_5
  replace r14:=Asa l18 r14
  replace r15:=Arv l18 r15
  replace r17:=Asa l18 r17
  refine ⟨l18,?_⟩
  refine Bg (i:=7) [o1,o1,o1,o1,o1,o1,o1,o1] rfl (by kernel_rfl) rfl l18 rfl (Cp (v:=v18) rfl) ?_
  refine Ec rfl ?_
  apply k13
  refine Ag rfl rfl ?_
  refine Aa rfl (Ah (v:=(iV ((i:Int)))) h8_6) ?_
  refine Aa rfl (Br (p:=(i:Int)) (q:=1) rfl rfl (z:=(((i + 1):Nat):Int)) (Bo (by first | rfl | omega | (push_cast; rfl)) (by omega) (by omega))) ?_
  refine l_A (iV ((((i + 1):Nat):Int))) rfl rfl ?_
  apply Ac
  refine ⟨_,?_,((i + 1)),v18,rfl,rfl,(Arz l8 l18),rfl,h8_1,h8_2,rfl,rfl,(by omega),(Val.cast (by rw [Zc ha16]) r18),trivial⟩
  omega
 have q12:=of_decide_eq_false b12
 refine Bx ?_
 apply k6
 refine w_q rfl rfl fun K19 k19=>?_
 refine Aa rfl (Ah (v:=vv8_5) h8_5) ?_
 refine l_A vv8_5 rfl rfl ?_
 apply Ac
 apply k19
 refine Aq ?_
 refine hret _ _ _ ?_
 refine ⟨(Arz (Arz l2 l5) l8),rfl,Aci (v:=vv8_5) rfl (Val.cast ?_ VV8_5)⟩
 ·rw [List.take_of_length_le (by omega)]
end Go.Proofs.YtoefdnbaklajeaaDoor

namespace Go.Proofs.YtoefdnbaklajeaaDoor
open Go
set_option maxRecDepth 100000 in
theorem c_refCheckResults {mn:Bool} {X:Frame→List Frame→Ro→Own→Cy→Prop} {ρ:Ro} {σ:Own} {l:Lab} {vl vr:Value} {rs:List Found} (rl:Val ρ vl l) (rr:Val ρ vr rs):CallsH (CX mn X) 24 #[vl,vr] ρ σ (fun w ρ' σ'=>ρ' = ρ∧σ' = σ∧w = (iV (Cw l rs))):=by
 refine Bh (n:=17) (args:=[vl,vr]) [4] Tryd.func24 rfl rfl rfl rfl fun Q hret hnor=>?_
 refine w_q rfl rfl fun K1 k1=>?_
 refine Ae rfl (Eb (v:=vl) rfl fun k2=>?_)
 refine Bb (a:=l) rl fun ρ2 l2 r2=>?_
 replace rl:=Asa l2 rl
 replace rr:=Asa l2 rr
 refine l_A (iV (0)) rfl rfl ?_
 apply Ac
 apply k1
 refine Ai fun K3 k3=>?_
 refine w_q rfl rfl fun K4 k4=>?_
 refine Ak rfl (Ax Aaj rfl r2) fun v5 r5=>?_
 refine l_M vr rfl rfl ?_
 refine Ae rfl (Bn (vs:=[v5,vr]) (v:=(iV (Hw l rs))) (c_refcheckResults r5 rr) Tryd.func66 rfl rfl ⟨rfl,rfl,trivial⟩ ?_)
 refine l_A (iV (Hw l rs)) rfl rfl ?_
 apply Ac
 apply k4
 refine w_q rfl rfl fun K6 k6=>?_
 refine l_M (iV (Hw l rs)) rfl rfl ?_
 refine Aa rfl (Dg (p:=Hw l rs) (q:=0) rfl rfl) ?_
 apply Ac
 apply k6
 refine As (t:=Hw l rs != 0) rfl (fun b7=>?_) (fun b7=>?_)
 ·have q7:=Mb b7
  refine w_q rfl rfl fun K8 k8=>?_
  refine l_M (iV (Hw l rs)) rfl rfl ?_
  refine l_A (iV (Hw l rs)) rfl rfl ?_
  apply Ac
  apply k8
  refine Aj (Arw l2) ?_
  refine Aq ?_
  refine hret _ _ _ ?_
  refine ⟨rfl,rfl,Eq.trans (b:=(iV (Hw l rs))) rfl ?_⟩
  rw [Cw,Rx q7]
 have q7:=Jh b7
 refine Al ?_
 apply k3
 refine Ai fun K9 k9=>?_
 refine w_q rfl rfl fun K10 k10=>?_
 refine Ak rfl (Ax Aaj rfl r2) fun v11 r11=>?_
 refine l_M vr rfl rfl ?_
 obtain ⟨ok,hrs,hr8⟩:=Aou q7
 refine Ae rfl (Cm (vs:=[v11,vr]) (c_refRemain r11 rr ok hrs) Tryd.func55 rfl rfl ⟨rfl,rfl,trivial⟩ fun v12 ρ12 σ12 hc12=>?_)
 obtain ⟨l12,s12,r12⟩:=hc12
 replace s12:=s12.symm; subst s12
 replace rr:=Asa l12 rr
 replace r2:=Arv l12 r2
 replace r11:=Asa l12 r11
 have g13:=Val.len r12
 refine Aa rfl (Ce (el:=3) Tryd.underlying30 rfl r12) ?_
 refine Aa rfl (Ek (p:=(((Bw (Ba l rs)).length:Nat):Int)) (q:=0) rfl rfl) ?_
 apply Ac
 apply k10
 refine As (t:=(((Bw (Ba l rs)).length:Nat):Int) == 0) rfl (fun b14=>?_) (fun b14=>?_)
 ·have q14:=Jo b14
  refine w_q rfl rfl fun K15 k15=>?_
  refine l_A (iV (9)) rfl rfl ?_
  apply Ac
  apply k15
  refine Aj (Arw (Arz l2 l12)) ?_
  refine Aq ?_
  refine hret _ _ _ ?_
  refine ⟨rfl,rfl,Eq.trans (b:=(iV (9))) rfl ?_⟩
  rw [Cw,Gt q7,if_pos q14]
 have q14:=La b14
 refine Al ?_
 apply k9
 refine w_q rfl rfl fun K16 k16=>?_
 refine l_A (iV (0)) rfl rfl ?_
 apply Ac
 apply k16
 refine Aj (Arw (Arz l2 l12)) ?_
 refine Aq ?_
 refine hret _ _ _ ?_
 refine ⟨rfl,rfl,Eq.trans (b:=(iV (0))) rfl ?_⟩
 rw [Cw,Gt q7,if_neg q14]
end Go.Proofs.YtoefdnbaklajeaaDoor

namespace Go.Proofs.YtoefdnbaklajeaaDoor
open Go
set_option maxRecDepth 100000 in
theorem c_Great {mn:Bool} {X:Frame→List Frame→Ro→Own→Cy→Prop} {ρ:Ro} {σ:Own} {l:Lab} {vl:Value} (rl:Val ρ vl l):CallsH (CX mn X) 23 #[vl] ρ σ (fun w ρ' σ'=>ρ' = ρ∧σ' = σ∧∃ b,w = .bool b):=by
 refine Bh (n:=57) (args:=[vl]) [2] Tryd.func23 rfl rfl rfl rfl fun Q hret hnor=>?_
 refine w_q rfl rfl fun K1 k1=>?_
 refine Ae rfl (Eb (v:=vl) rfl fun k2=>?_)
 refine Bb (a:=l) rl fun ρ2 l2 r2=>?_
 replace rl:=Asa l2 rl
 refine l_A (.bool (false)) rfl rfl ?_
 apply Ac
 apply k1
 refine Ai fun K3 k3=>?_
 refine w_q rfl rfl fun K4 k4=>?_
 refine Ak rfl (Ay Lab.f_kinds Tryd.underlying40 rfl rfl Hu (by decide) rfl r2) fun v5 r5=>?_
 refine Ak rfl (Ax Hu rfl r5) fun v6 r6=>?_
 have g7:=Val.len r6
 refine Aa rfl (Ce (el:=9) Tryd.underlying22 rfl r6) ?_
 refine Aa rfl (Gk (p:=((l.kinds.length:Nat):Int)) (q:=40) rfl rfl) ?_
 refine l_M (.bool (decide (((l.kinds.length:Nat):Int) > 40))) rfl rfl ?_
 refine Cn (decide (((l.kinds.length:Nat):Int) > 40)) (fun b8=>?_) (fun b8=>?_)
 ·have q8:=of_decide_eq_true b8
  refine Ap (Bl rfl rfl rfl b8) ?_
  refine Ap (Bl rfl rfl rfl b8) ?_
  refine Ap (Bl rfl rfl rfl b8) ?_
  refine Ap (Bl rfl rfl rfl b8) ?_
  refine Aa rfl (Bt rfl b8 (v:=(.bool (true))) rfl) ?_
  apply Ac
  apply k4
  refine Co rfl rfl ?_
  refine w_q rfl rfl fun K9 k9=>?_
  refine l_A (.bool (true)) rfl rfl ?_
  apply Ac
  apply k9
  refine Aj (Arw l2) ?_
  refine Aq ?_
  refine hret _ _ _ ?_
  exact ⟨rfl,rfl,_,rfl⟩
 have q8:=of_decide_eq_false b8
 refine Ak (Ar rfl rfl rfl b8) (Ay Lab.f_tests Tryd.underlying40 rfl rfl Vd (by decide) rfl r2) fun v10 r10=>?_
 refine Ak (Ar rfl rfl rfl b8) (Ax Vd rfl r10) fun v11 r11=>?_
 have g12:=Val.len r11
 refine Aa (Ar rfl rfl rfl b8) (Ce (el:=108) Tryd.underlying38 rfl r11) ?_
 refine Aa (Ar rfl rfl rfl b8) (Gk (p:=((l.tests.length:Nat):Int)) (q:=40) rfl rfl) ?_
 refine Aa rfl (Bm rfl b8 (v:=(.bool (decide (((l.tests.length:Nat):Int) > 40)))) rfl) ?_
 apply Ac
 apply k4
 refine As (t:=decide (((l.tests.length:Nat):Int) > 40)) rfl (fun b13=>?_) (fun b13=>?_)
 ·have q13:=of_decide_eq_true b13
  refine w_q rfl rfl fun K14 k14=>?_
  refine l_A (.bool (true)) rfl rfl ?_
  apply Ac
  apply k14
  refine Aj (Arw l2) ?_
  refine Aq ?_
  refine hret _ _ _ ?_
  exact ⟨rfl,rfl,_,rfl⟩
 have q13:=of_decide_eq_false b13
 refine Al ?_
 apply k3
 refine w_q rfl rfl fun K15 k15=>?_
 refine l_A (iV (0)) rfl rfl ?_
 apply Ac
 apply k15
 refine Ai fun K16 k16=>?_
 refine w_q rfl rfl fun K17 k17=>?_
 refine l_A (iV (0)) rfl rfl ?_
 apply Ac
 apply k17
 refine Ao ?_
 refine Cc (fun mm ee dd ρ' σ'=>∃ (i:Nat) (n:Int),(l.kinds.length - i) = mm∧[] = dd∧ρ2 = ρ'∧σ = σ'∧ee 1 = (.pointer (some ⟨k2,0,none⟩))∧ee 3 = (iV (n))∧ee 4 = (iV ((i:Int)))∧(i ≤ l.kinds.length)∧True) (m:=_) ⟨0,0,rfl,rfl,rfl,rfl,rfl,rfl,rfl,(Nat.zero_le _),trivial⟩ ?_
 rintro m18 e18 _ _ _ ⟨i,n,rfl,rfl,rfl,rfl,h18_1,h18_3,h18_4,p18_0,_⟩
 refine Ai fun K19 k19=>?_
 refine w_q rfl rfl fun K20 k20=>?_
 refine Aa rfl (Ah (v:=(iV ((i:Int)))) h18_4) ?_
 refine Ak rfl (Ay Lab.f_kinds Tryd.underlying40 rfl rfl Hu (by decide) h18_1 r2) fun v21 r21=>?_
 refine Ak rfl (Ax Hu rfl r21) fun v22 r22=>?_
 have g23:=Val.len r22
 refine Aa rfl (Ce (el:=9) Tryd.underlying22 rfl r22) ?_
 refine Aa rfl (Da (p:=(i:Int)) (q:=((l.kinds.length:Nat):Int)) rfl rfl) ?_
 apply Ac
 apply k20
 refine As (t:=decide ((i:Int) < ((l.kinds.length:Nat):Int))) rfl (fun b24=>?_) (fun b24=>?_)
 ·have q24:=of_decide_eq_true b24
  refine Al ?_
  apply k19
  refine Ai fun K25 k25=>?_
  refine Ao ?_
  refine Ag rfl rfl ?_
  refine Aa rfl (Ah (v:=(iV (n))) h18_3) ?_
  refine Ak rfl (Ay Lab.f_kinds Tryd.underlying40 rfl rfl Hu (by decide) h18_1 r2) fun v26 r26=>?_
  refine Ak rfl (Ax Hu rfl r26) fun v27 r27=>?_
  refine Aa rfl (Ah (v:=(iV ((i:Int)))) h18_4) ?_
  obtain ⟨a29,ha29⟩:=Ed (xs:=l.kinds) (i:=i) (by omega)
  refine Ak rfl (Ci i Tryd.underlying22 ty9 rfl r27 (q:=(i:Int)) rfl rfl ha29) fun v28 r28=>?_
  have g30:=At.slen r28
  refine Aa rfl (Oz ty9 rfl r28) ?_
  refine Aa rfl (Afb Tryd.underlying9 (s:=a29) rfl) ?_
  refine Aa rfl (Br (p:=n) (q:=((a29.size:Nat):Int)) rfl rfl (z:=(IntKind.i64.wrap (n + ((a29.size:Nat):Int)))) rfl) ?_
  refine l_A (iV ((IntKind.i64.wrap (n + ((a29.size:Nat):Int))))) rfl rfl ?_
  apply Ac
  apply k25
  refine Ag rfl rfl ?_
  refine Aa rfl (Ah (v:=(iV ((i:Int)))) h18_4) ?_
  refine Aa rfl (Br (p:=(i:Int)) (q:=1) rfl rfl (z:=(((i + 1):Nat):Int)) (Bo (by first | rfl | omega | (push_cast; rfl)) (by omega) (by omega))) ?_
  refine l_A (iV ((((i + 1):Nat):Int))) rfl rfl ?_
  apply Ac
  refine ⟨_,?_,((i + 1)),((IntKind.i64.wrap (n + ((a29.size:Nat):Int)))),rfl,rfl,rfl,rfl,h18_1,rfl,rfl,(by omega),trivial⟩
  omega
 have q24:=of_decide_eq_false b24
 refine Bx ?_
 apply k16
 refine Ai fun K31 k31=>?_
 refine w_q rfl rfl fun K32 k32=>?_
 refine l_A (iV (0)) rfl rfl ?_
 apply Ac
 apply k32
 refine Ao ?_
 refine Cc (fun mm ee dd ρ' σ'=>∃ (i:Nat) (n:Int),(l.tests.length - i) = mm∧[] = dd∧ρ2 = ρ'∧σ = σ'∧ee 1 = (.pointer (some ⟨k2,0,none⟩))∧ee 3 = (iV (n))∧ee 5 = (iV ((i:Int)))∧(i ≤ l.tests.length)∧True) (m:=_) ⟨0,n,rfl,rfl,rfl,rfl,h18_1,h18_3,rfl,(Nat.zero_le _),trivial⟩ ?_
 rintro m33 e33 _ _ _ ⟨i,n,rfl,rfl,rfl,rfl,h33_1,h33_3,h33_5,p33_0,_⟩
 refine Ai fun K34 k34=>?_
 refine w_q rfl rfl fun K35 k35=>?_
 refine Aa rfl (Ah (v:=(iV ((i:Int)))) h33_5) ?_
 refine Ak rfl (Ay Lab.f_tests Tryd.underlying40 rfl rfl Vd (by decide) h33_1 r2) fun v36 r36=>?_
 refine Ak rfl (Ax Vd rfl r36) fun v37 r37=>?_
 have g38:=Val.len r37
 refine Aa rfl (Ce (el:=108) Tryd.underlying38 rfl r37) ?_
 refine Aa rfl (Da (p:=(i:Int)) (q:=((l.tests.length:Nat):Int)) rfl rfl) ?_
 apply Ac
 apply k35
 refine As (t:=decide ((i:Int) < ((l.tests.length:Nat):Int))) rfl (fun b39=>?_) (fun b39=>?_)
 ·have q39:=of_decide_eq_true b39
  refine Al ?_
  apply k34
  refine Ai fun K40 k40=>?_
  refine Ao ?_
  refine Ai fun K41 k41=>?_
  refine w_q rfl rfl fun K42 k42=>?_
  refine Ak rfl (Ay Lab.f_tests Tryd.underlying40 rfl rfl Vd (by decide) h33_1 r2) fun v43 r43=>?_
  refine Ak rfl (Ax Vd rfl r43) fun v44 r44=>?_
  refine Aa rfl (Ah (v:=(iV ((i:Int)))) h33_5) ?_
  obtain ⟨a46,ha46⟩:=Ed (xs:=l.tests) (i:=i) (by omega)
  refine Ak rfl (Ci i Tryd.underlying38 Td rfl r44 (q:=(i:Int)) rfl rfl ha46) fun v45 r45=>?_
  refine Ak rfl (Ay FTest.f_sees Tryd.underlying108 rfl rfl Aex (by decide) rfl r45) fun v47 r47=>?_
  refine Ak rfl (Ax Aex rfl r47) fun v48 r48=>?_
  have g49:=Val.len r48
  refine Aa rfl (Ce (el:=53) Tryd.underlying46 rfl r48) ?_
  refine Aa rfl (Gk (p:=((a46.sees.length:Nat):Int)) (q:=40) rfl rfl) ?_
  apply Ac
  apply k42
  refine As (t:=decide (((a46.sees.length:Nat):Int) > 40)) rfl (fun b50=>?_) (fun b50=>?_)
  ·have q50:=of_decide_eq_true b50
   refine w_q rfl rfl fun K51 k51=>?_
   refine l_A (.bool (true)) rfl rfl ?_
   apply Ac
   apply k51
   refine Aj (Arw l2) ?_
   refine Aq ?_
   refine hret _ _ _ ?_
   exact ⟨rfl,rfl,_,rfl⟩
  have q50:=of_decide_eq_false b50
  refine Al ?_
  apply k41
  refine Ag rfl rfl ?_
  refine Aa rfl (Ah (v:=(iV (n))) h33_3) ?_
  refine Ak rfl (Ay Lab.f_tests Tryd.underlying40 rfl rfl Vd (by decide) h33_1 r2) fun v52 r52=>?_
  refine Ak rfl (Ax Vd rfl r52) fun v53 r53=>?_
  refine Aa rfl (Ah (v:=(iV ((i:Int)))) h33_5) ?_
  refine Ak rfl (Ci i Tryd.underlying38 Td rfl r53 (q:=(i:Int)) rfl rfl ha46) fun v54 r54=>?_
  refine Ak rfl (Ay FTest.f_name Tryd.underlying108 rfl rfl ty9 (by decide) rfl r54) fun v55 r55=>?_
  have g56:=At.slen r55
  refine Aa rfl (Oz ty9 rfl r55) ?_
  refine Aa rfl (Afb Tryd.underlying9 (s:=a46.name) rfl) ?_
  refine Aa rfl (Br (p:=n) (q:=((a46.name.size:Nat):Int)) rfl rfl (z:=(IntKind.i64.wrap (n + ((a46.name.size:Nat):Int)))) rfl) ?_
  refine l_A (iV ((IntKind.i64.wrap (n + ((a46.name.size:Nat):Int))))) rfl rfl ?_
  apply Ac
  apply k40
  refine Ag rfl rfl ?_
  refine Aa rfl (Ah (v:=(iV ((i:Int)))) h33_5) ?_
  refine Aa rfl (Br (p:=(i:Int)) (q:=1) rfl rfl (z:=(((i + 1):Nat):Int)) (Bo (by first | rfl | omega | (push_cast; rfl)) (by omega) (by omega))) ?_
  refine l_A (iV ((((i + 1):Nat):Int))) rfl rfl ?_
  apply Ac
  refine ⟨_,?_,((i + 1)),((IntKind.i64.wrap (n + ((a46.name.size:Nat):Int)))),rfl,rfl,rfl,rfl,h33_1,rfl,rfl,(by omega),trivial⟩
  omega
 have q39:=of_decide_eq_false b39
 refine Bx ?_
 apply k31
 refine w_q rfl rfl fun K57 k57=>?_
 refine Aa rfl (Ah (v:=(iV (n))) h33_3) ?_
 refine Aa rfl (Gk (p:=n) (q:=1000) rfl rfl) ?_
 refine l_A (.bool (decide (n > 1000))) rfl rfl ?_
 apply Ac
 apply k57
 refine Aj (Arw l2) ?_
 refine Aq ?_
 refine hret _ _ _ ?_
 exact ⟨rfl,rfl,_,rfl⟩
end Go.Proofs.YtoefdnbaklajeaaDoor

namespace Go.Proofs.YtoefdnbaklajeaaDoor
open Go
theorem bestO_le {n t e:Nat} {g:Nat→Option Nat} (ht:t < n) (hg:g t = some e):∃ d,Mu n g = some d∧d ≤ e:=by
  induction n with
  | zero=>omega
  | succ n ih =>
    rw [Ik]
    by_cases h:t = n
    · subst h
      rw [hg]
      cases Mu t g with
      | none=>exact ⟨e,rfl,Nat.le_refl _⟩
      | some a=>exact ⟨min a e,rfl,Nat.min_le_right _ _⟩
    · obtain ⟨d,h1,h2⟩:=ih (by omega)
      rw [h1]
      cases g n with
      | none=>exact ⟨d,rfl,h2⟩
      | some b=>exact ⟨min d b,rfl,Nat.le_trans (Nat.min_le_left _ _) h2⟩
end Go.Proofs.YtoefdnbaklajeaaDoor

namespace Go.Proofs.YtoefdnbaklajeaaDoor
open Go Go.WideShapes
/-- A number without a sign of two bytes. -/
structure UH where
  n:Nat
  lt:n < 65536
instance:Dat UH where
  k:=1
  agg:=false
  rep _ cs x:=cs = [.int .u16 (x.n:Int)]
  mono _ h:=h
  len h:=by rw [h]; rfl
  sgl h:=by rw [h]; simp [single]
  one _:=rfl
section
variable {H:Type} {enc:TypeId × Value→H} {W:World} {r:Reach} {base t:Nat} {v:Value} {d:DataW H} {p:List MemPlace}
set_option maxRecDepth 100000 in
theorem arg_u8 (ht:Tryd.prog.underlying t = some (.int .u8)) (hv:Value.okWide Tryd.prog W r base t v) (h:DataW.Trod enc Tryd.prog W 0 (fun _=>true) true t v d p):∃ n:Nat,v = .int .u8 (n:Int)∧n < 256:=by
  obtain ⟨n,rfl⟩:=okWide_int ht hv
  obtain ⟨fuel,hf⟩:=h
  obtain ⟨m,h1,_,h3⟩:=DataW.trod_int (cs:=[.int .u8 n]) ht hf
  simp [Lit.wf,IntKind.min,IntKind.max,IntKind.signed,IntKind.bits] at h3
  obtain rfl:n = m:=by simpa using h1
  exact ⟨n.toNat,by rw [Int.toNat_of_nonneg (by omega)],by omega⟩
end
end Go.Proofs.YtoefdnbaklajeaaDoor

namespace Go.Proofs.YtoefdnbaklajeaaDoor
open Go
theorem bel_1 {xs:List Nat} {k s:Nat} (hs:s ∈ xs) (h:Pt xs k = 1):Cu s k = true:=by
  unfold Pt at h
  split at h
  · cases h
  · split at h
    · rename_i h2
      have:=List.any_eq_false.1 (Afj.1 h2) s hs
      simpa using this
    · cases h
theorem bel_2 {xs:List Nat} {k s:Nat} (hs:s ∈ xs) (h:Pt xs k = 2):Cu s k = false:=by
  unfold Pt at h
  split at h
  · rename_i h2
    have:=List.any_eq_false.1 (Aat.1 h2) s hs
    simpa using this
  · split at h <;> cases h
theorem bel_never {xs:List Nat} {k:Nat} (h:∀ x ∈ xs,Cu x k = false):Pt xs k = 2:=by
  unfold Pt
  rw [if_pos (Aat.2 (List.any_eq_false.2 fun x hx=>by rw [h x hx]; decide))]
end Go.Proofs.YtoefdnbaklajeaaDoor

namespace Go.Proofs.YtoefdnbaklajeaaDoor
open Go
theorem fold_after {l:Lab}:∀ (rs:List Found) (xs:List Nat),rs.foldl (Au l) xs = xs.filter fun s=>rs.all fun r=>Qg l r s
  | [],xs=>(List.filter_eq_self.2 fun _ _=>rfl).symm
  | r :: rs,xs=>by
    rw [List.foldl_cons,fold_after rs]
    unfold Au
    rw [List.filter_filter]
    congr 1
    funext s
    rw [List.all_cons,Bool.and_comm]
theorem remain_filter {l:Lab} {rs:List Found}:Ba l rs = (Hk l).filter fun s=>rs.all fun r=>Qg l r s:=fold_after rs _
theorem remain_one {l:Lab} {rs:List Found} {r:Found}:Ba l (rs ++ [r]) = Au l (Ba l rs) r:=by
  unfold Ba; rw [List.foldl_append]; rfl
theorem remain_comm {l:Lab} {a b:List Found}:Ba l (b ++ a) = Ba l (a ++ b):=by
  rw [remain_filter,remain_filter]
  congr 1
  funext s
  rw [List.all_append,List.all_append,Bool.and_comm]
theorem resOk_mem {l:Lab} {rs:List Found}:ResOk l rs↔∀ r ∈ rs,0 ≤ r.test∧r.test < (l.tests.length:Int):=by
  constructor
  · intro h r hr
    obtain ⟨i,hi⟩:=List.getElem?_of_mem hr
    exact h i r hi
  · intro h i r hr
    exact h r (List.mem_of_getElem? hr)
theorem resF_ok {l:Lab} {rs:List Found} (h:Gj l = 0) (hr:ResOk l rs) (hn:rs.length ≤ 8):Hw l rs = 0:=by
  unfold Hw
  rw [Jr]
  refine ⟨h,?_⟩
  rw [if_neg (by omega)]
  refine Fz.2 fun j hj=>?_
  have hx:rs[j]? = some rs[j]:=List.getElem?_eq_getElem hj
  simp only [Vw,hx]
  have:=hr j _ hx
  rw [if_pos (Ge.2 ⟨by omega,by omega⟩)]
theorem checkF_ok {l:Lab} {rs:List Found} (h:Hw l rs = 0) (hn:Ba l rs ≠ []):Cw l rs = 0:=by
  unfold Cw
  rw [Jr]
  refine ⟨h,?_⟩
  rw [if_neg]
  rw [Fe]
  have:(Ba l rs).length ≠ 0:=fun h=>hn (List.eq_nil_of_length_eq_zero h)
  omega
theorem checkF_ne {l:Lab} {rs:List Found} (h:Cw l rs = 0):Ba l rs ≠ []:=by
  unfold Cw at h
  rw [Jr] at h
  intro h2
  rw [h2] at h
  simp [Bw] at h
theorem rot_res {l:Lab} {a b:List Found} (h:Cw l (a ++ b) = 0):Cw l (b ++ a) = 0∧Sk l (b ++ a) = Sk l (a ++ b)∧Xx l (b ++ a) = Xx l (a ++ b)∧Yl l (b ++ a) = Yl l (a ++ b):=by
  have h1:=Abk (Xz h)
  have hc:Cw l (b ++ a) = 0:=checkF_ok (resF_ok h1.1 (resOk_mem.2 fun r hr=>resOk_mem.1 h1.2.1 r (by simp only [List.mem_append] at *; exact hr.symm)) (by have:=h1.2.2; simp only [List.length_append] at *; omega)) (by rw [remain_comm]; exact checkF_ne h)
  refine ⟨hc,?_,?_,?_⟩
  · unfold Sk; rw [if_pos hc,if_pos h,remain_comm]
  · unfold Xx; rw [if_pos hc,if_pos h,remain_comm]
  · unfold Yl; rw [if_pos hc,if_pos h,remain_comm]
theorem settled_iff {xs:List Nat}:Dz (Bw xs) = true↔(∀ x ∈ xs,x = 0)∨(∀ x ∈ xs,x ≠ 0):=by
  constructor
  · intro h
    cases xs with
    | nil=>exact .inl fun x hx=>by cases hx
    | cons y ys =>
      have key:∀ x ∈ y :: ys,(x = 0↔y = 0):=fun x hx=>by
        obtain ⟨i,hi⟩:=List.getElem?_of_mem hx
        have h1:Ig (Bw (y :: ys)) i = false:=by
          cases hq:Ig (Bw (y :: ys)) i with
          | false=>rfl
          | true =>
            have:=Aei (l:=Bw (y :: ys)) (i:=i) (by rw [Fe]; exact (List.getElem?_eq_some_iff.1 hi).1) hq
            rw [this] at h; cases h
        have e1:(Bw (y :: ys))[i]? = some (x:Int):=by unfold Bw; rw [List.getElem?_map,hi]; rfl
        have e2:(Bw (y :: ys))[0]? = some (y:Int):=rfl
        unfold Ig at h1
        rw [e1,e2] at h1
        simp only at h1
        constructor
        · intro h2
          subst h2
          cases hy:((y:Int) == 0) with
          | true=>have:=eq_of_beq hy; omega
          | false=>rw [hy] at h1; cases h1
        · intro h2
          subst h2
          cases hy:((x:Int) == 0) with
          | true=>have:=eq_of_beq hy; omega
          | false=>rw [hy] at h1; cases h1
      by_cases hy:y = 0
      · exact .inl fun x hx=>(key x hx).2 hy
      · exact .inr fun x hx h2=>hy ((key x hx).1 h2)
  · intro h
    refine Aep fun j hj=>?_
    rw [Fe] at hj
    have hx:xs[j]? = some xs[j]:=List.getElem?_eq_getElem hj
    have h0:xs[0]? = some xs[0]:=List.getElem?_eq_getElem (by omega)
    have e1:(Bw xs)[j]? = some ((xs[j]:Nat):Int):=by simp [Bw,List.getElem?_map,hx]
    have e2:(Bw xs)[0]? = some ((xs[0]:Nat):Int):=by simp [Bw,List.getElem?_map,h0]
    unfold Ig
    rw [e1,e2]
    simp only
    rcases h with h | h
    · rw [h _ (List.getElem_mem hj),h xs[0] (List.getElem_mem _)]; rfl
    · have a1:=h _ (List.getElem_mem hj)
      have a2:=h xs[0] (List.getElem_mem (by omega))
      have b1:(((xs[j]:Nat):Int) == 0) = false:=by rw [beq_eq_false_iff_ne]; omega
      have b2:(((xs[0]:Nat):Int) == 0) = false:=by rw [beq_eq_false_iff_ne]; omega
      rw [b1,b2]; rfl
theorem settled_sub {xs ys:List Nat} (h:ys.Sublist xs) (hs:Dz (Bw xs) = true):Dz (Bw ys) = true:=by
  rw [settled_iff] at hs ⊢
  rcases hs with hs | hs
  · exact .inl fun x hx=>hs x (h.subset hx)
  · exact .inr fun x hx=>hs x (h.subset hx)
theorem dep_settled {l:Lab} {xs:List Nat} {left:Nat} (hl:left < 32) (hs:Dz (Bw xs) = true):dep l xs left = some 0:=by
  rw [Un hl,if_pos hs]
theorem shl_pos {t:Nat}:1 ≤ 1 <<< t:=by rw [Nat.one_shiftLeft]; exact Nat.one_le_two_pow
theorem dep_sub {l:Lab} {left:Nat} (hl:left < 32):∀ {xs ys:List Nat} {d:Nat},ys.Sublist xs→dep l xs left = some d→∃ d',dep l ys left = some d'∧d' ≤ d:=by
  induction left using Nat.strongRecOn with
  | _ left ih =>
    intro xs ys d h hd
    cases hy:Dz (Bw ys) with
    | true=>exact ⟨0,dep_settled hl hy,Nat.zero_le _⟩
    | false =>
      have hx:Dz (Bw xs) = false:=by
        cases hx:Dz (Bw xs) with
        | false=>rfl
        | true=>rw [settled_sub h hx] at hy; cases hy
      have h1:=Un (l:=l) (sets:=xs) hl
      rw [hx,if_neg (by simp),hd] at h1
      obtain ⟨t,ht,h2⟩:=Oy h1.symm
      split at h2
      · rename_i hb
        obtain ⟨a,b,ha,hb',hd'⟩:=Wj h2
        have h3:=(Og hl hb).1
        have:=shl_pos (t:=t)
        obtain ⟨a',ha',hle⟩:=ih (left - 1 <<< t) (by omega) (by omega) (h.filter _) ha
        obtain ⟨b',hb'',hle'⟩:=ih (left - 1 <<< t) (by omega) (by omega) (h.filter _) hb'
        have hw:Gr l ys left t = some (1 + max a' b'):=by
          unfold Gr
          have e1:dep l (Au l ys (fT t true)) (left - 1 <<< t) = some a':=ha'
          have e2:dep l (Au l ys (fT t false)) (left - 1 <<< t) = some b':=hb''
          rw [e1,e2]; rfl
        obtain ⟨d2,h4,h5⟩:=bestO_le (g:=fun t=>if Cu left t then Gr l ys left t else none) ht (by show (if Cu left t then Gr l ys left t else none) = _; rw [if_pos hb,hw])
        refine ⟨d2,?_,by omega⟩
        rw [Un hl,hy,if_neg (by simp)]
        exact h4
      · cases h2
theorem full_lt {n:Nat} (h:n ≤ 5):1 <<< n - 1 < 32:=by
  have:=(Ame h).2; omega
theorem more_res {l:Lab} {rs:List Found} {x:Found} (h:Cw l rs = 0) (h2:Cw l (rs ++ [x]) = 0) :
    (Sk l (rs ++ [x])).length = (Sk l rs).length∧(∀ (k:Nat) (a b:Int),(Sk l rs)[k]? = some a→(Sk l (rs ++ [x]))[k]? = some b→a ≠ 0→b = a)∧(Yl l rs = true→Yl l (rs ++ [x]) = true∧Xx l (rs ++ [x]) ≤ Xx l rs):=by
  have hsub:(Ba l (rs ++ [x])).Sublist (Ba l rs):=by rw [remain_one]; exact List.filter_sublist
  have hne:=checkF_ne h2
  refine ⟨?_,?_,?_⟩
  · unfold Sk; rw [if_pos h,if_pos h2]; simp
  · intro k a b ha hb h0
    unfold Sk at ha hb
    rw [if_pos h,List.getElem?_map] at ha
    rw [if_pos h2,List.getElem?_map] at hb
    obtain ⟨i,hi,rfl⟩:=Option.map_eq_some_iff.1 ha
    obtain ⟨j,hj,rfl⟩:=Option.map_eq_some_iff.1 hb
    rw [hi] at hj
    cases hj
    by_cases e2:Pt (Ba l rs) i = 2
    · rw [e2]
      exact bel_never fun s hs=>bel_2 (hsub.subset hs) e2
    · have e1:Pt (Ba l rs) i = 1:=by
        unfold Pt at h0 e2 ⊢
        split
        · rename_i h3; rw [if_pos h3] at e2; exact absurd rfl e2
        · rename_i h3
          rw [if_neg h3] at h0
          split
          · rfl
          · rename_i h4; rw [if_neg h4] at h0; exact absurd rfl h0
      rw [e1]
      have hall:∀ s ∈ Ba l (rs ++ [x]),Cu s i = true:=fun s hs=>bel_1 (hsub.subset hs) e1
      obtain ⟨s,hs⟩:=List.exists_mem_of_ne_nil _ hne
      unfold Pt
      rw [if_neg,if_pos (Afj.2 (List.any_eq_false.2 fun y hy=>by rw [hall y hy]; decide))]
      intro h3
      have:=List.any_eq_false.1 (Aat.1 h3) s hs
      exact this (hall s hs)
  · intro hB
    unfold Yl at hB ⊢
    unfold Xx
    rw [if_pos h] at hB
    rw [if_pos h,if_pos h2,if_pos h2]
    have ok:=Lm (Abk (Xz h)).1
    obtain ⟨d,hd⟩:=Option.isSome_iff_exists.1 hB
    obtain ⟨d',hd',hle⟩:=dep_sub (full_lt ok.ntests) hsub hd
    rw [hd,hd']
    exact ⟨rfl,by simp only; omega⟩
end Go.Proofs.YtoefdnbaklajeaaDoor

namespace Go.Proofs.YtoefdnbaklajeaaDoor
open Go
theorem bel_len {l:Lab} {rs:List Found} (h:Cw l rs = 0):(Sk l rs).length = l.kinds.length:=by unfold Sk; rw [if_pos h]; simp
theorem rot_law {l:Lab} {rs:List Found} {k:Nat} (h:Cw l rs = 0):Cw l (rs.drop k ++ rs.take k) = 0∧Sk l (rs.drop k ++ rs.take k) = Sk l rs∧Xx l (rs.drop k ++ rs.take k) = Xx l rs∧Yl l (rs.drop k ++ rs.take k) = Yl l rs:=by
 have h1:=rot_res (l:=l) (a:=rs.take k) (b:=rs.drop k) (by rw [List.take_append_drop]; exact h)
 rw [List.take_append_drop] at h1; exact h1
section
variable {mn:Bool} {X:Frame→List Frame→Ro→Own→Cy→Prop} {ρ:Ro} {σ:Own}
theorem c_BeliefsZ {l:Lab} {rs:List Found} {vl vr:Value} {b:List Int} (hf:Cw l rs = 0) (hb:Sk l rs = b) (hg:Glob ρ) (rl:Val ρ vl l) (rr:Val ρ vr rs):CallsH (CX mn X) 25 #[vl,vr] ρ σ (fun w ρ' σ'=>Ro.le ρ ρ'∧σ' = σ∧∃ v0,w = .tuple #[v0,.int .i64 0]∧Val ρ' v0 (b:List Int)):=by
 have h:=Aec (mn:=mn) (X:=X) (σ:=σ) hg rl rr; rw [hf,hb] at h; exact h
theorem c_TreeZ {l:Lab} {rs:List Found} {vl vr:Value} {d:Int} {b:Bool} (hf:Cw l rs = 0) (hd:Xx l rs = d) (hb:Yl l rs = b) (hg:Glob ρ) (rl:Val ρ vl l) (rr:Val ρ vr rs):CallsH (CX mn X) 26 #[vl,vr] ρ σ (fun w ρ' σ'=>Ro.le ρ ρ'∧σ' = σ∧∃ v0,w = .tuple #[v0,.int .i64 d,.bool b,.int .i64 0]∧Val ρ' v0 (Za l rs:List FNode)):=by
 have h:=Anu (mn:=mn) (X:=X) (σ:=σ) hg rl rr; rw [hf,hd,hb] at h; exact h
end
set_option maxHeartbeats 8000000 in
set_option maxRecDepth 100000 in
theorem c_FakeMore  {ρ:Ro} {σ:Own} {l:Lab} {rs:List Found} {x:Found} {pick:Nat} {vl vr vx:Value} (hg:Glob ρ) (hnr:Js σ) (rl:Val ρ vl l) (rr:Val ρ vr rs) (rx:Val ρ vx x) (hpick:pick < 256):Agv (CX true (Acu Tryd.prog)) 4 8 [vl,vr,vx,(.int .u8 ((pick:Int)))] ρ σ (fun w ρ' σ'=>ρ' = ρ∧σ' = σ∧w = (.bool (true))):=by
 refine body_fn (n:=197) Tryd.func4 rfl rfl rfl rfl fun Q hret hnor=>?_
 refine w_q rfl rfl fun K1 k1=>?_
 refine Ae rfl (Eb (v:=vl) rfl fun k2=>?_)
 refine Bb (a:=l) rl fun ρ2 l2 r2=>?_
 replace rl:=Asa l2 rl
 replace rr:=Asa l2 rr
 replace rx:=Asa l2 rx
 replace hg:=Glob.mono l2 hg
 refine Ae rfl (Eb (v:=vx) rfl fun k3=>?_)
 refine Bb (a:=x) rx fun ρ3 l3 r3=>?_
 replace rl:=Asa l3 rl
 replace rr:=Asa l3 rr
 replace rx:=Asa l3 rx
 replace hg:=Glob.mono l3 hg
 replace r2:=Arv l3 r2
 refine l_A (.bool (false)) rfl rfl ?_
 apply Ac
 apply k1
 refine Ai fun K4 k4=>?_
 refine w_q rfl rfl fun K5 k5=>?_
 refine Ak rfl (Ax Aaj rfl r2) fun v6 r6=>?_
 refine Ae rfl (Cm (vs:=[v6]) (c_Great r6) Tryd.func23 rfl rfl ⟨rfl,trivial⟩ fun w7 ρ7 σ7 hc7=>?_)
 obtain ⟨hr7,hs7,b7_,hw7⟩:=hc7
 replace hr7:=hr7.symm; replace hs7:=hs7.symm; subst hr7 hs7 hw7
 refine l_M (.bool (b7_)) rfl rfl ?_
 refine Cn (b7_) (fun b8=>?_) (fun b8=>?_)
 ·refine Ap (Bl rfl rfl rfl b8) ?_
  refine Ap (Bl rfl rfl rfl b8) ?_
  refine Ap (Bl rfl rfl rfl b8) ?_
  refine Aa rfl (Bt rfl b8 (v:=(.bool (true))) rfl) ?_
  refine l_M (.bool (true)) rfl rfl ?_
  refine Ap (Bl rfl rfl rfl rfl) ?_
  refine Ap (Bl rfl rfl rfl rfl) ?_
  refine Ap (Bl rfl rfl rfl rfl) ?_
  refine Ap (Bl rfl rfl rfl rfl) ?_
  refine Aa rfl (Bt rfl rfl (v:=(.bool (true))) rfl) ?_
  apply Ac
  apply k5
  refine Co rfl rfl ?_
  refine w_q rfl rfl fun K9 k9=>?_
  refine Ae rfl (Bn (vs:=[]) (v:=(.bool (true))) (c_tells hg hnr) Tryd.func17 rfl rfl trivial ?_)
  refine l_A (.bool (true)) rfl rfl ?_
  apply Ac
  apply k9
  refine Aj (Arw (Arz l2 l3)) ?_
  refine Aq ?_
  refine hret _ _ _ ?_
  refine ⟨rfl,rfl,Eq.trans (b:=(.bool (true))) rfl ?_⟩
  rfl
 refine l_M vr (Ar rfl rfl rfl b8) rfl ?_
 have g10:=Val.len rr
 refine Aa (Ar rfl rfl rfl b8) (Ce (el:=43) Tryd.underlying41 rfl rr) ?_
 refine Aa (Ar rfl rfl rfl b8) (Gk (p:=((rs.length:Nat):Int)) (q:=8) rfl rfl) ?_
 refine Aa rfl (Bm rfl b8 (v:=(.bool (decide (((rs.length:Nat):Int) > 8)))) rfl) ?_
 refine l_M (.bool (decide (((rs.length:Nat):Int) > 8))) rfl rfl ?_
 refine Cn (decide (((rs.length:Nat):Int) > 8)) (fun b11=>?_) (fun b11=>?_)
 ·have q11:=of_decide_eq_true b11
  refine Ap (Bl rfl rfl rfl b11) ?_
  refine Ap (Bl rfl rfl rfl b11) ?_
  refine Ap (Bl rfl rfl rfl b11) ?_
  refine Ap (Bl rfl rfl rfl b11) ?_
  refine Aa rfl (Bt rfl b11 (v:=(.bool (true))) rfl) ?_
  apply Ac
  apply k5
  refine Co rfl rfl ?_
  refine w_q rfl rfl fun K12 k12=>?_
  refine Ae rfl (Bn (vs:=[]) (v:=(.bool (true))) (c_tells hg hnr) Tryd.func17 rfl rfl trivial ?_)
  refine l_A (.bool (true)) rfl rfl ?_
  apply Ac
  apply k12
  refine Aj (Arw (Arz l2 l3)) ?_
  refine Aq ?_
  refine hret _ _ _ ?_
  refine ⟨rfl,rfl,Eq.trans (b:=(.bool (true))) rfl ?_⟩
  rfl
 have q11:=of_decide_eq_false b11
 refine Ak (Ar rfl rfl rfl b11) (Ax Aaj rfl r2) fun v13 r13=>?_
 refine l_M vr (Ar rfl rfl rfl b11) rfl ?_
 refine Ae (Ar rfl rfl rfl b11) (Bn (vs:=[v13,vr]) (v:=(iV (Cw l rs))) (c_refCheckResults r13 rr) Tryd.func24 rfl rfl ⟨rfl,rfl,trivial⟩ ?_)
 refine Aa (Ar rfl rfl rfl b11) (Dg (p:=Cw l rs) (q:=0) rfl rfl) ?_
 refine Aa rfl (Bm rfl b11 (v:=(.bool (Cw l rs != 0))) rfl) ?_
 apply Ac
 apply k5
 refine As (t:=Cw l rs != 0) rfl (fun b14=>?_) (fun b14=>?_)
 ·have q14:=Mb b14
  refine w_q rfl rfl fun K15 k15=>?_
  refine Ae rfl (Bn (vs:=[]) (v:=(.bool (true))) (c_tells hg hnr) Tryd.func17 rfl rfl trivial ?_)
  refine l_A (.bool (true)) rfl rfl ?_
  apply Ac
  apply k15
  refine Aj (Arw (Arz l2 l3)) ?_
  refine Aq ?_
  refine hret _ _ _ ?_
  refine ⟨rfl,rfl,Eq.trans (b:=(.bool (true))) rfl ?_⟩
  rfl
 have hc0:=Jh b14
 have hk4:=(Lm (Abk (Xz hc0)).1).n4
 have q14:=Jh b14
 refine Al ?_
 apply k4
 refine w_q rfl rfl fun K16 k16=>?_
 refine Ak rfl (Ax Aaj rfl r2) fun v17 r17=>?_
 refine l_M vr rfl rfl ?_
 refine Ae rfl (Cm (vs:=[v17,vr]) (c_BeliefsZ (rs:=rs) hc0 rfl hg r17 rr) Tryd.func25 rfl rfl ⟨rfl,rfl,trivial⟩ fun w18 ρ18 σ18 hc18=>?_)
 obtain ⟨l18,s18,v18_0,w18e,r18_0⟩:=hc18
 replace s18:=s18.symm; subst s18 w18e
 replace rr:=Asa l18 rr
 replace hg:=Glob.mono l18 hg
 replace r2:=Arv l18 r2
 replace r3:=Arv l18 r3
 replace r17:=Asa l18 r17
 refine l_M (.tuple #[v18_0,(iV (0))]) rfl rfl ?_
 refine Aa rfl (Bk (vs:=#[v18_0,(iV (0))]) rfl (v:=v18_0) rfl) ?_
 refine Aa rfl (Bk (vs:=#[v18_0,(iV (0))]) rfl (v:=(iV (0))) rfl) ?_
 refine l_A v18_0 rfl rfl ?_
 refine l_A (iV (0)) rfl rfl ?_
 apply Ac
 apply k16
 refine w_q rfl rfl fun K19 k19=>?_
 refine Ak rfl (Ax Aaj rfl r2) fun v20 r20=>?_
 refine l_M vr rfl rfl ?_
 refine Ae rfl (Cm (vs:=[v20,vr]) (c_TreeZ (rs:=rs) hc0 rfl rfl hg r20 rr) Tryd.func26 rfl rfl ⟨rfl,rfl,trivial⟩ fun w21 ρ21 σ21 hc21=>?_)
 obtain ⟨l21,s21,v21_0,w21e,r21_0⟩:=hc21
 replace s21:=s21.symm; subst s21 w21e
 replace rr:=Asa l21 rr
 replace hg:=Glob.mono l21 hg
 replace r2:=Arv l21 r2
 replace r3:=Arv l21 r3
 replace r18_0:=Asa l21 r18_0
 replace r20:=Asa l21 r20
 refine l_M (.tuple #[v21_0,(iV (Xx l rs)),(.bool (Yl l rs)),(iV (0))]) rfl rfl ?_
 refine Aa rfl (Bk (vs:=#[v21_0,(iV (Xx l rs)),(.bool (Yl l rs)),(iV (0))]) rfl (v:=v21_0) rfl) ?_
 refine Aa rfl (Bk (vs:=#[v21_0,(iV (Xx l rs)),(.bool (Yl l rs)),(iV (0))]) rfl (v:=(iV (Xx l rs))) rfl) ?_
 refine Aa rfl (Bk (vs:=#[v21_0,(iV (Xx l rs)),(.bool (Yl l rs)),(iV (0))]) rfl (v:=(.bool (Yl l rs))) rfl) ?_
 refine Aa rfl (Bk (vs:=#[v21_0,(iV (Xx l rs)),(.bool (Yl l rs)),(iV (0))]) rfl (v:=(iV (0))) rfl) ?_
 refine l_A v21_0 rfl rfl ?_
 refine l_A (iV (Xx l rs)) rfl rfl ?_
 refine l_A (.bool (Yl l rs)) rfl rfl ?_
 refine l_A (iV (0)) rfl rfl ?_
 apply Ac
 apply k19
 refine Ai fun K22 k22=>?_
 refine w_q rfl rfl fun K23 k23=>?_
 refine l_M (iV (0)) rfl rfl ?_
 refine Aa rfl (Dg (p:=0) (q:=0) rfl rfl) ?_
 refine l_M (.bool (false)) rfl rfl ?_
 refine l_M (iV (0)) (Ar rfl rfl rfl rfl) rfl ?_
 refine Aa (Ar rfl rfl rfl rfl) (Dg (p:=0) (q:=0) rfl rfl) ?_
 refine Aa rfl (Bm rfl rfl (v:=(.bool (false))) rfl) ?_
 refine l_M (.bool (false)) rfl rfl ?_
 refine l_M v18_0 (Ar rfl rfl rfl rfl) rfl ?_
 have g24:=Val.len r18_0
 refine Aa (Ar rfl rfl rfl rfl) (Ce (el:=53) Tryd.underlying46 rfl r18_0) ?_
 refine Ak (Ar rfl rfl rfl rfl) (Ay Lab.f_kinds Tryd.underlying40 rfl rfl Hu (by decide) rfl r2) fun v25 r25=>?_
 refine Ak (Ar rfl rfl rfl rfl) (Ax Hu rfl r25) fun v26 r26=>?_
 have g27:=Val.len r26
 refine Aa (Ar rfl rfl rfl rfl) (Ce (el:=9) Tryd.underlying22 rfl r26) ?_
 refine Aa (Ar rfl rfl rfl rfl) (Dg (p:=(((Sk l rs).length:Nat):Int)) (q:=((l.kinds.length:Nat):Int)) rfl rfl) ?_
 refine Aa rfl (Bm rfl rfl (v:=(.bool ((((Sk l rs).length:Nat):Int) != ((l.kinds.length:Nat):Int)))) rfl) ?_
 apply Ac
 apply k23
 refine Cg rfl (by rw [bel_len hc0]; simp) ?_
 refine Al ?_
 apply k22
 refine Ai fun K28 k28=>?_
 refine w_q rfl rfl fun K29 k29=>?_
 refine l_M vr rfl rfl ?_
 have g30:=Val.len rr
 refine Aa rfl (Ce (el:=43) Tryd.underlying41 rfl rr) ?_
 refine Aa rfl (Gk (p:=((rs.length:Nat):Int)) (q:=0) rfl rfl) ?_
 apply Ac
 apply k29
 refine As (t:=decide (((rs.length:Nat):Int) > 0)) rfl (fun b31=>?_) (fun b31=>?_)
 ·have q31:=of_decide_eq_true b31
  refine w_q rfl rfl fun K32 k32=>?_
  refine l_M (.int .u8 ((pick:Int))) rfl rfl ?_
  refine Aa rfl (Abu (p:=(pick:Int)) (z:=(pick:Int)) Tryd.underlying5 Tryd.underlying3 rfl (Bo rfl (by omega) (by omega))) ?_
  refine l_M vr rfl rfl ?_
  have g33:=Val.len rr
  refine Aa rfl (Ce (el:=43) Tryd.underlying41 rfl rr) ?_
  have hml34:=Nat.mod_lt pick (show 0 < rs.length by omega)
  refine Aa rfl (y_rem (p:=(pick:Int)) (q:=((rs.length:Nat):Int)) rfl rfl (by omega) (z:=(((pick % rs.length):Nat):Int)) rfl) ?_
  refine l_A (iV ((((pick % rs.length):Nat):Int))) rfl rfl ?_
  apply Ac
  apply k32
  refine Ai fun K35 k35=>?_
  refine Dc [0,1,2,3,4,5,6,7,8,9] (by kernel_rfl) rfl rfl ?_
  refine Be (i:=1) [o0,o1,o0,o0,o0,o0,o0,o0,o0,o0] rfl (by kernel_rfl) rfl Ary rfl (Ah (v:=vr) rfl) ?_
  refine Be (i:=2) [o0,o1,o1,o0,o0,o0,o0,o0,o0,o0] rfl (by kernel_rfl) rfl Ary rfl (Ah (v:=(iV ((((pick % rs.length):Nat):Int)))) rfl) ?_
  refine Cd (i:=3) [o0,o1,o1,o1,o0,o0,o0,o0,o0,o0] rfl (by kernel_rfl) rfl Ary rfl (Abe ((pick % rs.length)) Tryd.underlying41 Aax rfl rr (q:=(((pick % rs.length):Nat):Int)) rfl rfl (by omega)) fun v36 r36=>?_
  refine Be (i:=5) [o0,o1,o1,o1,o0,o1,o0,o0,o0,o0] rfl (by kernel_rfl) rfl Ary rfl (Ah (v:=vr) rfl) ?_
  refine Be (i:=6) [o0,o1,o1,o1,o0,o1,o1,o0,o0,o0] rfl (by kernel_rfl) rfl Ary rfl (Ah (v:=(iV ((((pick % rs.length):Nat):Int)))) rfl) ?_
  refine Cd (i:=7) [o0,o1,o1,o1,o0,o1,o1,o1,o0,o0] rfl (by kernel_rfl) rfl Ary rfl (y_slice_hi ((pick % rs.length)) Tryd.underlying41 Aax rfl rr (q:=(((pick % rs.length):Nat):Int)) rfl rfl (by omega)) fun v37 r37=>?_
  refine Dj (i:=0) [o1,o1,o1,o1,o0,o1,o1,o1,o0,o0] rfl (by kernel_rfl) rfl rfl (Bi (α:=Found) (xs:=[]) (vs:=[]) Tryd.underlying41 Aax Ahd rfl (by decide) rfl trivial rfl (by decide) fun k38 cs38 R38=>⟨Ary,?_⟩)
  have G38:Grow ρ21 43 (.slice (some ⟨k38,0,none⟩) 0 0) ([]:List Found) [(k38,Res.obj (.cells cs38.toArray 43 (0,0)))]:=Bs R38 rfl (by decide)
  refine Dj (i:=4) Aho rfl (by kernel_rfl) rfl rfl (Fx (σ:=σ) (gr:=[(k38,Res.obj (.cells cs38.toArray 43 (0,0)))]) (xs:=([]:List Found)) (ys:=(rs.drop ((pick % rs.length)))) Tryd.underlying41 Tryd.underlying41 (Ab Tryd.typeInfo43) rfl (Nat.le_of_ble_eq_true rfl) rfl rfl rfl rfl G38 r36 (by simp only [List.length_append,List.length_take,List.length_drop,List.length_cons,List.length_nil] at *; omega) fun v39 gr39 G39=>⟨Ary,?_⟩)
  refine Dj (i:=8) Aia rfl (by kernel_rfl) rfl rfl (Fx (σ:=σ) (gr:=gr39) (xs:=(([]:List Found) ++ (rs.drop ((pick % rs.length))))) (ys:=(rs.take ((pick % rs.length)))) Tryd.underlying41 Tryd.underlying41 (Ab Tryd.typeInfo43) rfl (Nat.le_of_ble_eq_true rfl) rfl rfl rfl rfl G39 r37 (by simp only [List.length_append,List.length_take,List.length_drop,List.length_cons,List.length_nil] at *; omega) fun v40 gr40 G40=>⟨Ary,?_⟩)
  refine Bg (i:=9) Aiz rfl (by kernel_rfl) rfl Ary rfl (Cp (v:=v40) rfl) ?_
  refine Ec rfl ?_
  apply k35
  refine w_q rfl rfl fun K41 k41=>?_
  refine Ak rfl (Ax Aaj rfl r2) fun v42 r42=>?_
  refine l_M v40 rfl rfl ?_
  refine Ca G40 fun ρ43 l43 r43=>?_
  replace rr:=Asa l43 rr
  replace hg:=Glob.mono l43 hg
  replace r2:=Arv l43 r2
  replace r3:=Arv l43 r3
  replace r18_0:=Asa l43 r18_0
  replace r42:=Asa l43 r42
  obtain ⟨hR1,hR2,hR3,hR4⟩:=rot_law (k:=pick % rs.length) hc0
  refine Ae rfl (Cm (vs:=[v42,v40]) (c_BeliefsZ (rs:=rs.drop (pick % rs.length) ++ rs.take (pick % rs.length)) hR1 hR2 hg r42 r43) Tryd.func25 rfl rfl ⟨rfl,rfl,trivial⟩ fun w44 ρ44 σ44 hc44=>?_)
  obtain ⟨l44,s44,v44_0,w44e,r44_0⟩:=hc44
  replace s44:=s44.symm; subst s44 w44e
  replace rr:=Asa l44 rr
  replace hg:=Glob.mono l44 hg
  replace r2:=Arv l44 r2
  replace r3:=Arv l44 r3
  replace r18_0:=Asa l44 r18_0
  replace r42:=Asa l44 r42
  replace r43:=Asa l44 r43
  refine l_M (.tuple #[v44_0,(iV (0))]) rfl rfl ?_
  refine Aa rfl (Bk (vs:=#[v44_0,(iV (0))]) rfl (v:=v44_0) rfl) ?_
  refine Aa rfl (Bk (vs:=#[v44_0,(iV (0))]) rfl (v:=(iV (0))) rfl) ?_
  refine l_A v44_0 rfl rfl ?_
  refine l_A (iV (0)) rfl rfl ?_
  apply Ac
  apply k41
  refine w_q rfl rfl fun K45 k45=>?_
  refine Ak rfl (Ax Aaj rfl r2) fun v46 r46=>?_
  refine l_M v40 rfl rfl ?_
  refine Ae rfl (Cm (vs:=[v46,v40]) (c_TreeZ (rs:=rs.drop (pick % rs.length) ++ rs.take (pick % rs.length)) hR1 hR3 hR4 hg r46 r43) Tryd.func26 rfl rfl ⟨rfl,rfl,trivial⟩ fun w47 ρ47 σ47 hc47=>?_)
  obtain ⟨l47,s47,v47_0,w47e,r47_0⟩:=hc47
  replace s47:=s47.symm; subst s47 w47e
  replace rr:=Asa l47 rr
  replace hg:=Glob.mono l47 hg
  replace r2:=Arv l47 r2
  replace r3:=Arv l47 r3
  replace r18_0:=Asa l47 r18_0
  replace r43:=Asa l47 r43
  replace r44_0:=Asa l47 r44_0
  replace r46:=Asa l47 r46
  refine l_M (.tuple #[v47_0,(iV (Xx l rs)),(.bool (Yl l rs)),(iV (0))]) rfl rfl ?_
  refine Aa rfl (Bk (vs:=#[v47_0,(iV (Xx l rs)),(.bool (Yl l rs)),(iV (0))]) rfl (v:=v47_0) rfl) ?_
  refine Aa rfl (Bk (vs:=#[v47_0,(iV (Xx l rs)),(.bool (Yl l rs)),(iV (0))]) rfl (v:=(iV (Xx l rs))) rfl) ?_
  refine Aa rfl (Bk (vs:=#[v47_0,(iV (Xx l rs)),(.bool (Yl l rs)),(iV (0))]) rfl (v:=(.bool (Yl l rs))) rfl) ?_
  refine Aa rfl (Bk (vs:=#[v47_0,(iV (Xx l rs)),(.bool (Yl l rs)),(iV (0))]) rfl (v:=(iV (0))) rfl) ?_
  refine l_A v47_0 rfl rfl ?_
  refine l_A (iV (Xx l rs)) rfl rfl ?_
  refine l_A (.bool (Yl l rs)) rfl rfl ?_
  refine l_A (iV (0)) rfl rfl ?_
  apply Ac
  apply k45
  refine w_q rfl rfl fun K48 k48=>?_
  refine l_M (iV (0)) rfl rfl ?_
  refine Aa rfl (Dg (p:=0) (q:=0) rfl rfl) ?_
  refine l_M (.bool (false)) rfl rfl ?_
  refine l_M (iV (0)) (Ar rfl rfl rfl rfl) rfl ?_
  refine Aa (Ar rfl rfl rfl rfl) (Dg (p:=0) (q:=0) rfl rfl) ?_
  refine Aa rfl (Bm rfl rfl (v:=(.bool (false))) rfl) ?_
  refine l_M (.bool (false)) rfl rfl ?_
  refine l_M v18_0 (Ar rfl rfl rfl rfl) rfl ?_
  refine l_M v44_0 (Ar rfl rfl rfl rfl) rfl ?_
  refine Ae (Ar rfl rfl rfl rfl) (Bn (vs:=[v18_0,v44_0]) (v:=(.bool (decide (Sk l rs = Sk l rs)))) (Oo r18_0 r44_0) Tryd.func27 rfl rfl ⟨rfl,rfl,trivial⟩ ?_)
  refine Aa (Ar rfl rfl rfl rfl) (Ix (k:=decide (Sk l rs = Sk l rs)) rfl) ?_
  refine Aa rfl (Bm rfl rfl (v:=(.bool (!(decide (Sk l rs = Sk l rs))))) rfl) ?_
  refine l_M (.bool (!(decide (Sk l rs = Sk l rs)))) rfl rfl ?_
  refine l_M (iV (Xx l rs)) (Ar rfl rfl rfl (not_t (by simp))) rfl ?_
  refine l_M (iV (Xx l rs)) (Ar rfl rfl rfl (not_t (by simp))) rfl ?_
  refine Aa (Ar rfl rfl rfl (not_t (by simp))) (Dg (p:=Xx l rs) (q:=Xx l rs) rfl rfl) ?_
  refine Aa rfl (Bm rfl (not_t (by simp)) (v:=(.bool (Xx l rs != Xx l rs))) rfl) ?_
  refine l_M (.bool (Xx l rs != Xx l rs)) rfl rfl ?_
  refine l_M (.bool (Yl l rs)) (Ar rfl rfl rfl (by simp)) rfl ?_
  refine l_M (.bool (Yl l rs)) (Ar rfl rfl rfl (by simp)) rfl ?_
  refine Aa (Ar rfl rfl rfl (by simp)) (y_neqb Tryd.underlying4 (p:=Yl l rs) (q:=Yl l rs) rfl rfl) ?_
  refine Aa rfl (Bm rfl (by simp) (v:=(.bool ((Yl l rs) != (Yl l rs)))) rfl) ?_
  apply Ac
  apply k48
  refine Cg rfl (by simp) ?_
  refine Al ?_
  apply k28
  refine Ai fun K49 k49=>?_
  refine Dc [0,1,2,3,4,5,6] (by kernel_rfl) rfl rfl ?_
  refine Be (i:=1) [o0,o1,o0,o0,o0,o0,o0] rfl (by kernel_rfl) rfl Ary rfl (Ah (v:=vr) rfl) ?_
  refine Cd (i:=3) [o0,o1,o0,o1,o0,o0,o0] rfl (by kernel_rfl) rfl Ary rfl (Ax Aax rfl r3) fun v50 r50=>?_
  refine Acr (i:=0) (j:=4) [o1,o1,o0,o1,o0,o0,o0] [o0,o1,o0,o1,o1,o0,o0] rfl rfl (by kernel_rfl) rfl rfl rfl rfl ?_ ?_
  ·refine Bi (α:=Found) (xs:=[]) (vs:=[]) Tryd.underlying41 Aax Ahd rfl (by decide) rfl trivial rfl (by decide) fun k51 cs51 R51=>⟨Ary,?_⟩
   have G51:Grow ρ47 43 (.slice (some ⟨k51,0,none⟩) 0 0) ([]:List Found) [(k51,Res.obj (.cells cs51.toArray 43 (0,0)))]:=Bs R51 rfl (by decide)
   refine Acr (i:=2) (j:=4) Aph [o1,o1,o0,o1,o1,o0,o0] rfl rfl (by kernel_rfl) rfl rfl rfl rfl ?_ ?_
   ·refine Fx (σ:=σ) (gr:=[(k51,Res.obj (.cells cs51.toArray 43 (0,0)))]) (xs:=([]:List Found)) (ys:=rs) Tryd.underlying41 Tryd.underlying41 (Ab Tryd.typeInfo43) rfl (Nat.le_of_ble_eq_true rfl) rfl rfl rfl rfl G51 rr (by simp only [List.length_append,List.length_take,List.length_drop,List.length_cons,List.length_nil] at *; omega) fun v52 gr52 G52=>⟨Ary,?_⟩
    refine Dj (i:=4) Aog rfl (by kernel_rfl) rfl rfl (Bi (α:=Found) (xs:=[x]) (vs:=[v50]) Tryd.underlying41 Aax Ahd rfl (by decide) (Dl (os:=[.tmp 127]) ⟨rfl,trivial⟩) ⟨r50,trivial⟩ rfl (by decide) fun k53 cs53 R53=>⟨Ary,?_⟩)
    have G53:Grow ρ47 43 (.slice (some ⟨k53,0,none⟩) 1 1) ([x]:List Found) [(k53,Res.obj (.cells cs53.toArray 43 (0,0)))]:=Bs R53 rfl (by decide)
    refine Ls G53 fun ρ55 l55 r55=>?_
    replace rr:=Asa l55 rr
    replace hg:=Glob.mono l55 hg
    replace r2:=Arv l55 r2
    replace r3:=Arv l55 r3
    replace r18_0:=Asa l55 r18_0
    replace r50:=Asa l55 r50
    replace G52:=Grow.mono l55 G52
    refine Dj (i:=5) Aoi rfl (by kernel_rfl) rfl rfl (Fx (σ:=σ) (gr:=gr52) (xs:=(([]:List Found) ++ rs)) (ys:=([x]:List Found)) Tryd.underlying41 Tryd.underlying41 (Ab Tryd.typeInfo43) rfl (Nat.le_of_ble_eq_true rfl) rfl rfl rfl rfl G52 r55 (by simp only [List.length_append,List.length_take,List.length_drop,List.length_cons,List.length_nil] at *; omega) fun v54 gr54 G54=>⟨l55,?_⟩)
    refine Bg (i:=6) Amx rfl (by kernel_rfl) rfl l55 rfl (Cp (v:=v54) rfl) ?_
    refine Ec rfl ?_
    apply k49
    refine Ai fun K56 k56=>?_
    refine w_q rfl rfl fun K57 k57=>?_
    refine Ak rfl (Ax Aaj rfl r2) fun v58 r58=>?_
    refine l_M v54 rfl rfl ?_
    refine Ca G54 fun ρ59 l59 r59=>?_
    replace hg:=Glob.mono l59 hg
    replace r2:=Arv l59 r2
    replace r18_0:=Asa l59 r18_0
    replace r58:=Asa l59 r58
    refine Ae rfl (Bn (vs:=[v58,v54]) (v:=(iV (Cw l (((([]:List Found) ++ rs) ++ ([x]:List Found)))))) (c_refCheckResults r58 r59) Tryd.func24 rfl rfl ⟨rfl,rfl,trivial⟩ ?_)
    refine Aa rfl (Dg (p:=Cw l (((([]:List Found) ++ rs) ++ ([x]:List Found)))) (q:=0) rfl rfl) ?_
    apply Ac
    apply k57
    refine As (t:=Cw l (((([]:List Found) ++ rs) ++ ([x]:List Found))) != 0) rfl (fun b60=>?_) (fun b60=>?_)
    ·have q60:=Mb b60
     refine w_q rfl rfl fun K61 k61=>?_
     refine Ae rfl (Bn (vs:=[]) (v:=(.bool (true))) (c_tells hg hnr) Tryd.func17 rfl rfl trivial ?_)
     refine l_A (.bool (true)) rfl rfl ?_
     apply Ac
     apply k61
     refine Aj (Arw (Arz (Arz (Arz (Arz (Arz (Arz (Arz (Arz l2 l3) l18) l21) l43) l44) l47) l55) l59)) ?_
     refine Aq ?_
     refine hret _ _ _ ?_
     refine ⟨rfl,rfl,Eq.trans (b:=(.bool (true))) rfl ?_⟩
     rfl
    have hc2:Cw l (rs ++ [x]) = 0:=Jh b60
    obtain ⟨hM1,hM2,hM3⟩:=more_res hc0 hc2
    have q60:=Jh b60
    refine Al ?_
    apply k56
    refine w_q rfl rfl fun K62 k62=>?_
    refine Ak rfl (Ax Aaj rfl r2) fun v63 r63=>?_
    refine l_M v54 rfl rfl ?_
    refine Ae rfl (Cm (vs:=[v63,v54]) (c_BeliefsZ (rs:=(rs ++ [x])) hc2 rfl hg r63 r59) Tryd.func25 rfl rfl ⟨rfl,rfl,trivial⟩ fun w64 ρ64 σ64 hc64=>?_)
    obtain ⟨l64,s64,v64_0,w64e,r64_0⟩:=hc64
    replace s64:=s64.symm; subst s64 w64e
    replace hg:=Glob.mono l64 hg
    replace r2:=Arv l64 r2
    replace r18_0:=Asa l64 r18_0
    replace r59:=Asa l64 r59
    replace r63:=Asa l64 r63
    refine l_M (.tuple #[v64_0,(iV (0))]) rfl rfl ?_
    refine Aa rfl (Bk (vs:=#[v64_0,(iV (0))]) rfl (v:=v64_0) rfl) ?_
    refine Aa rfl (Bk (vs:=#[v64_0,(iV (0))]) rfl (v:=(iV (0))) rfl) ?_
    refine l_A v64_0 rfl rfl ?_
    refine l_A (iV (0)) rfl rfl ?_
    apply Ac
    apply k62
    refine w_q rfl rfl fun K65 k65=>?_
    refine Ak rfl (Ax Aaj rfl r2) fun v66 r66=>?_
    refine l_M v54 rfl rfl ?_
    refine Ae rfl (Cm (vs:=[v66,v54]) (c_TreeZ (rs:=(rs ++ [x])) hc2 rfl rfl hg r66 r59) Tryd.func26 rfl rfl ⟨rfl,rfl,trivial⟩ fun w67 ρ67 σ67 hc67=>?_)
    obtain ⟨l67,s67,v67_0,w67e,r67_0⟩:=hc67
    replace s67:=s67.symm; subst s67 w67e
    replace hg:=Glob.mono l67 hg
    replace r2:=Arv l67 r2
    replace r18_0:=Asa l67 r18_0
    replace r59:=Asa l67 r59
    replace r64_0:=Asa l67 r64_0
    replace r66:=Asa l67 r66
    refine l_M (.tuple #[v67_0,(iV (Xx l (rs ++ [x]))),(.bool (Yl l (rs ++ [x]))),(iV (0))]) rfl rfl ?_
    refine Aa rfl (Bk (vs:=#[v67_0,(iV (Xx l (rs ++ [x]))),(.bool (Yl l (rs ++ [x]))),(iV (0))]) rfl (v:=v67_0) rfl) ?_
    refine Aa rfl (Bk (vs:=#[v67_0,(iV (Xx l (rs ++ [x]))),(.bool (Yl l (rs ++ [x]))),(iV (0))]) rfl (v:=(iV (Xx l (rs ++ [x])))) rfl) ?_
    refine Aa rfl (Bk (vs:=#[v67_0,(iV (Xx l (rs ++ [x]))),(.bool (Yl l (rs ++ [x]))),(iV (0))]) rfl (v:=(.bool (Yl l (rs ++ [x])))) rfl) ?_
    refine Aa rfl (Bk (vs:=#[v67_0,(iV (Xx l (rs ++ [x]))),(.bool (Yl l (rs ++ [x]))),(iV (0))]) rfl (v:=(iV (0))) rfl) ?_
    refine l_A v67_0 rfl rfl ?_
    refine l_A (iV (Xx l (rs ++ [x]))) rfl rfl ?_
    refine l_A (.bool (Yl l (rs ++ [x]))) rfl rfl ?_
    refine l_A (iV (0)) rfl rfl ?_
    apply Ac
    apply k65
    refine Ai fun K68 k68=>?_
    refine w_q rfl rfl fun K69 k69=>?_
    refine l_M (iV (0)) rfl rfl ?_
    refine Aa rfl (Dg (p:=0) (q:=0) rfl rfl) ?_
    refine l_M (.bool (false)) rfl rfl ?_
    refine l_M (iV (0)) (Ar rfl rfl rfl rfl) rfl ?_
    refine Aa (Ar rfl rfl rfl rfl) (Dg (p:=0) (q:=0) rfl rfl) ?_
    refine Aa rfl (Bm rfl rfl (v:=(.bool (false))) rfl) ?_
    refine l_M (.bool (false)) rfl rfl ?_
    refine l_M v64_0 (Ar rfl rfl rfl rfl) rfl ?_
    have g70:=Val.len r64_0
    refine Aa (Ar rfl rfl rfl rfl) (Ce (el:=53) Tryd.underlying46 rfl r64_0) ?_
    refine l_M v18_0 (Ar rfl rfl rfl rfl) rfl ?_
    have g71:=Val.len r18_0
    refine Aa (Ar rfl rfl rfl rfl) (Ce (el:=53) Tryd.underlying46 rfl r18_0) ?_
    refine Aa (Ar rfl rfl rfl rfl) (Dg (p:=(((Sk l (rs ++ [x])).length:Nat):Int)) (q:=(((Sk l rs).length:Nat):Int)) rfl rfl) ?_
    refine Aa rfl (Bm rfl rfl (v:=(.bool ((((Sk l (rs ++ [x])).length:Nat):Int) != (((Sk l rs).length:Nat):Int)))) rfl) ?_
    refine l_M (.bool ((((Sk l (rs ++ [x])).length:Nat):Int) != (((Sk l rs).length:Nat):Int))) rfl rfl ?_
    refine l_M (.bool (Yl l rs)) (Ar rfl rfl rfl (by rw [hM1]; simp)) rfl ?_
    refine l_M (.bool (Yl l rs)) (Ar rfl rfl rfl (by rw [hM1]; simp)) rfl ?_
    refine Cn (Yl l rs) (fun b72=>?_) (fun b72=>?_)
    ·refine Aa (Ar rfl rfl rfl b72) (Ah (v:=(.bool (Yl l (rs ++ [x])))) rfl) ?_
     refine Aa (Ar rfl rfl rfl b72) (Ix (k:=Yl l (rs ++ [x])) rfl) ?_
     refine l_M (.bool (!(Yl l (rs ++ [x])))) (Ar rfl rfl rfl b72) rfl ?_
     refine l_M (iV (Xx l (rs ++ [x]))) (Ar rfl rfl rfl (not_t (hM3 b72).1)) rfl ?_
     refine l_M (iV (Xx l rs)) (Ar rfl rfl rfl (not_t (hM3 b72).1)) rfl ?_
     refine Aa (Ar rfl rfl rfl (not_t (hM3 b72).1)) (Gk (p:=Xx l (rs ++ [x])) (q:=Xx l rs) rfl rfl) ?_
     refine Aa (Ar rfl rfl rfl b72) (Bm rfl (not_t (hM3 b72).1) (v:=(.bool (decide (Xx l (rs ++ [x]) > Xx l rs)))) rfl) ?_
     refine Aa (Ar rfl rfl rfl (by rw [hM1]; simp)) (Bt rfl b72 (v:=(.bool (decide (Xx l (rs ++ [x]) > Xx l rs)))) rfl) ?_
     refine Aa rfl (Bm rfl (by rw [hM1]; simp) (v:=(.bool (decide (Xx l (rs ++ [x]) > Xx l rs)))) rfl) ?_
     apply Ac
     apply k69
     refine Cg rfl (decide_eq_false (by have:=(hM3 b72).2; omega)) ?_
     refine Al ?_
     apply k68
     refine Ai fun K73 k73=>?_
     refine w_q rfl rfl fun K74 k74=>?_
     refine l_A (iV (0)) rfl rfl ?_
     apply Ac
     apply k74
     refine Ao ?_
     refine Cc (fun mm ee dd ρ' σ'=>∃ (k:Nat),((Sk l rs).length - k) = mm∧[] = dd∧ρ67 = ρ'∧σ = σ'∧ee 9 = v18_0∧ee 24 = v64_0∧ee 28 = (iV ((k:Int)))∧(k ≤ (Sk l rs).length)∧True) (m:=_) ⟨0,rfl,rfl,rfl,rfl,rfl,rfl,rfl,(Nat.zero_le _),trivial⟩ ?_
     rintro m75 e75 _ _ _ ⟨k,rfl,rfl,rfl,rfl,h75_9,h75_24,h75_28,p75_0,_⟩
     refine Ai fun K76 k76=>?_
     refine w_q rfl rfl fun K77 k77=>?_
     refine Aa rfl (Ah (v:=(iV ((k:Int)))) h75_28) ?_
     refine Aa rfl (Ah (v:=v18_0) h75_9) ?_
     have g78:=Val.len r18_0
     refine Aa rfl (Ce (el:=53) Tryd.underlying46 rfl r18_0) ?_
     refine Aa rfl (Da (p:=(k:Int)) (q:=(((Sk l rs).length:Nat):Int)) rfl rfl) ?_
     apply Ac
     apply k77
     refine As (t:=decide ((k:Int) < (((Sk l rs).length:Nat):Int))) rfl (fun b79=>?_) (fun b79=>?_)
     ·have q79:=of_decide_eq_true b79
      refine Al ?_
      apply k76
      refine Ai fun K80 k80=>?_
      refine Ao ?_
      refine Ai fun K81 k81=>?_
      refine Dc [0,1,2,3,4,5,6,7,8,9,10,11,12,13,14,15] (by kernel_rfl) rfl rfl ?_
      refine Be (i:=0) Apx rfl (by kernel_rfl) rfl Ary rfl (Ah (v:=v18_0) h75_9) ?_
      refine Bg (i:=1) Arn rfl (by kernel_rfl) rfl Ary rfl (Ah (v:=(iV ((k:Int)))) h75_28) ?_
      obtain ⟨a83,ha83⟩:=Ed (xs:=Sk l rs) (i:=k) (by omega)
      refine Hl (i:=2) Aqz rfl (by kernel_rfl) rfl Ary rfl (Ci k Tryd.underlying46 Ov rfl r18_0 (q:=(k:Int)) rfl rfl ha83) fun v82 r82=>?_
      have ⟨g84a,g84b⟩:=At.rng r82
      refine Bg (i:=3) Arc rfl (by kernel_rfl) rfl Ary rfl (Bc Ov rfl r82) ?_
      refine Bg (i:=4) Ark rfl (by kernel_rfl) rfl Ary rfl (Dg (p:=a83) (q:=0) rfl rfl) ?_
      refine Bg (i:=5) Aqg rfl (by kernel_rfl) rfl Ary rfl (Ah (v:=(.bool (a83 != 0))) rfl) ?_
      refine Akl (a83 != 0) (fun b85=>?_) (fun b85=>?_)
      ·have q85:=Mb b85
       refine Be (i:=6) Aqb rfl (by kernel_rfl) rfl Ary (Ar rfl rfl rfl b85) (Ah (v:=v64_0) h75_24) ?_
       refine Be (i:=7) Aoa rfl (by kernel_rfl) rfl Ary (Ar rfl rfl rfl b85) (Ah (v:=(iV ((k:Int)))) h75_28) ?_
       obtain ⟨a87,ha87⟩:=Ed (xs:=Sk l (rs ++ [x])) (i:=k) (by omega)
       refine Cd (i:=8) Amy rfl (by kernel_rfl) rfl Ary (Ar rfl rfl rfl b85) (Ci k Tryd.underlying46 Ov rfl r64_0 (q:=(k:Int)) rfl rfl ha87) fun v86 r86=>?_
       have ⟨g88a,g88b⟩:=At.rng r86
       refine Be (i:=9) Anr rfl (by kernel_rfl) rfl Ary (Ar rfl rfl rfl b85) (Bc Ov rfl r86) ?_
       refine Be (i:=10) [o1,o1,o1,o1,o1,o1,o1,o1,o1,o1,o1,o0,o0,o0,o0,o0] rfl (by kernel_rfl) rfl Ary (Ar rfl rfl rfl b85) (Ah (v:=v18_0) h75_9) ?_
       refine Bg (i:=11) [o1,o1,o1,o1,o1,o1,o1,o1,o1,o1,o1,o1,o0,o0,o0,o0] rfl (by kernel_rfl) rfl Ary (Ar rfl rfl rfl b85) (Ah (v:=(iV ((k:Int)))) h75_28) ?_
       refine Hl (i:=12) Ans rfl (by kernel_rfl) rfl Ary (Ar rfl rfl rfl b85) (Ci k Tryd.underlying46 Ov rfl r18_0 (q:=(k:Int)) rfl rfl ha83) fun v89 r89=>?_
       have ⟨g90a,g90b⟩:=At.rng r89
       refine Bg (i:=13) Apc rfl (by kernel_rfl) rfl Ary (Ar rfl rfl rfl b85) (Bc Ov rfl r89) ?_
       refine Bg (i:=14) Amv rfl (by kernel_rfl) rfl Ary (Ar rfl rfl rfl b85) (Dg (p:=a87) (q:=a83) rfl rfl) ?_
       refine Bg (i:=15) Apa rfl (by kernel_rfl) rfl Ary rfl (Bt rfl b85 (v:=(.bool (a87 != a83))) rfl) ?_
       refine Ec rfl ?_
       apply k81
       refine As (t:=a87 != a83) rfl (fun b91=>?_) (fun b91=>?_)
       ·have q91:=Mb b91
        refine w_q rfl rfl fun K92 k92=>?_
        refine l_A (.bool (false)) rfl rfl ?_
        apply Ac
        apply k92
        refine Aj (Arw (Arz (Arz (Arz (Arz (Arz (Arz (Arz (Arz (Arz (Arz l2 l3) l18) l21) l43) l44) l47) l55) l59) l64) l67)) ?_
        refine Aq ?_
        refine hret _ _ _ ?_
        refine ⟨rfl,rfl,Eq.trans (b:=(.bool (false))) rfl ?_⟩
        exfalso; exact absurd (hM2 _ _ _ ha83 ha87 (by omega)) (by omega)
       have q91:=Jh b91
       refine Al ?_
       apply k80
       refine Ag rfl rfl ?_
       refine Aa rfl (Ah (v:=(iV ((k:Int)))) h75_28) ?_
       refine Aa rfl (Br (p:=(k:Int)) (q:=1) rfl rfl (z:=(((k + 1):Nat):Int)) (Bo (by first | rfl | omega | (push_cast; rfl)) (by omega) (by omega))) ?_
       refine l_A (iV ((((k + 1):Nat):Int))) rfl rfl ?_
       apply Ac
       refine ⟨_,?_,((k + 1)),rfl,rfl,rfl,rfl,h75_9,h75_24,rfl,(by omega),trivial⟩
       omega
      have q85:=Jh b85
      refine Ua (i:=6) Aqb rfl (by kernel_rfl) rfl Ary (Bl rfl rfl rfl b85) ?_
      refine Ua (i:=7) Aoa rfl (by kernel_rfl) rfl Ary (Bl rfl rfl rfl b85) ?_
      refine Ua (i:=8) Amy rfl (by kernel_rfl) rfl Ary (Bl rfl rfl rfl b85) ?_
      refine Ua (i:=9) Anr rfl (by kernel_rfl) rfl Ary (Bl rfl rfl rfl b85) ?_
      refine Ua (i:=10) [o1,o1,o1,o1,o1,o1,o1,o1,o1,o1,o1,o0,o0,o0,o0,o0] rfl (by kernel_rfl) rfl Ary (Bl rfl rfl rfl b85) ?_
      refine Xl (i:=11) [o1,o1,o1,o1,o1,o1,o1,o1,o1,o1,o1,o1,o0,o0,o0,o0] rfl (by kernel_rfl) rfl Ary (Bl rfl rfl rfl b85) ?_
      refine Xl (i:=12) Ans rfl (by kernel_rfl) rfl Ary (Bl rfl rfl rfl b85) ?_
      refine Xl (i:=13) Apc rfl (by kernel_rfl) rfl Ary (Bl rfl rfl rfl b85) ?_
      refine Xl (i:=14) Amv rfl (by kernel_rfl) rfl Ary (Bl rfl rfl rfl b85) ?_
      refine Bg (i:=15) Apa rfl (by kernel_rfl) rfl Ary rfl (Bm rfl b85 (v:=(.bool (false))) rfl) ?_
      refine Ec rfl ?_
      apply k81
      refine Cg rfl rfl ?_
      refine Al ?_
      apply k80
      refine Ag rfl rfl ?_
      refine Aa rfl (Ah (v:=(iV ((k:Int)))) h75_28) ?_
      refine Aa rfl (Br (p:=(k:Int)) (q:=1) rfl rfl (z:=(((k + 1):Nat):Int)) (Bo (by first | rfl | omega | (push_cast; rfl)) (by omega) (by omega))) ?_
      refine l_A (iV ((((k + 1):Nat):Int))) rfl rfl ?_
      apply Ac
      refine ⟨_,?_,((k + 1)),rfl,rfl,rfl,rfl,h75_9,h75_24,rfl,(by omega),trivial⟩
      omega
     have q79:=of_decide_eq_false b79
     refine Bx ?_
     apply k73
     refine w_q rfl rfl fun K93 k93=>?_
     refine Ae rfl (Bn (vs:=[]) (v:=(.bool (true))) (c_tells hg hnr) Tryd.func17 rfl rfl trivial ?_)
     refine l_A (.bool (true)) rfl rfl ?_
     apply Ac
     apply k93
     refine Aj (Arw (Arz (Arz (Arz (Arz (Arz (Arz (Arz (Arz (Arz (Arz l2 l3) l18) l21) l43) l44) l47) l55) l59) l64) l67)) ?_
     refine Aq ?_
     refine hret _ _ _ ?_
     refine ⟨rfl,rfl,Eq.trans (b:=(.bool (true))) rfl ?_⟩
     rfl
    refine Ap (Bl rfl rfl rfl b72) ?_
    refine Ap (Bl rfl rfl rfl b72) ?_
    refine Ap (Bl rfl rfl rfl b72) ?_
    refine Ap (Jf rfl rfl rfl) ?_
    refine Ap (Jf rfl rfl rfl) ?_
    refine Ap (Jf rfl rfl rfl) ?_
    refine Ap (Bl rfl rfl rfl b72) ?_
    refine Aa (Ar rfl rfl rfl (by rw [hM1]; simp)) (Bm rfl b72 (v:=(.bool (false))) rfl) ?_
    refine Aa rfl (Bm rfl (by rw [hM1]; simp) (v:=(.bool (false))) rfl) ?_
    apply Ac
    apply k69
    refine Cg rfl rfl ?_
    refine Al ?_
    apply k68
    refine Ai fun K94 k94=>?_
    refine w_q rfl rfl fun K95 k95=>?_
    refine l_A (iV (0)) rfl rfl ?_
    apply Ac
    apply k95
    refine Ao ?_
    refine Cc (fun mm ee dd ρ' σ'=>∃ (k:Nat),((Sk l rs).length - k) = mm∧[] = dd∧ρ67 = ρ'∧σ = σ'∧ee 9 = v18_0∧ee 24 = v64_0∧ee 28 = (iV ((k:Int)))∧(k ≤ (Sk l rs).length)∧True) (m:=_) ⟨0,rfl,rfl,rfl,rfl,rfl,rfl,rfl,(Nat.zero_le _),trivial⟩ ?_
    rintro m96 e96 _ _ _ ⟨k,rfl,rfl,rfl,rfl,h96_9,h96_24,h96_28,p96_0,_⟩
    refine Ai fun K97 k97=>?_
    refine w_q rfl rfl fun K98 k98=>?_
    refine Aa rfl (Ah (v:=(iV ((k:Int)))) h96_28) ?_
    refine Aa rfl (Ah (v:=v18_0) h96_9) ?_
    have g99:=Val.len r18_0
    refine Aa rfl (Ce (el:=53) Tryd.underlying46 rfl r18_0) ?_
    refine Aa rfl (Da (p:=(k:Int)) (q:=(((Sk l rs).length:Nat):Int)) rfl rfl) ?_
    apply Ac
    apply k98
    refine As (t:=decide ((k:Int) < (((Sk l rs).length:Nat):Int))) rfl (fun b100=>?_) (fun b100=>?_)
    ·have q100:=of_decide_eq_true b100
     refine Al ?_
     apply k97
     refine Ai fun K101 k101=>?_
     refine Ao ?_
     refine Ai fun K102 k102=>?_
     refine Dc [0,1,2,3,4,5,6,7,8,9,10,11,12,13,14,15] (by kernel_rfl) rfl rfl ?_
     refine Be (i:=0) Apx rfl (by kernel_rfl) rfl Ary rfl (Ah (v:=v18_0) h96_9) ?_
     refine Bg (i:=1) Arn rfl (by kernel_rfl) rfl Ary rfl (Ah (v:=(iV ((k:Int)))) h96_28) ?_
     obtain ⟨a104,ha104⟩:=Ed (xs:=Sk l rs) (i:=k) (by omega)
     refine Hl (i:=2) Aqz rfl (by kernel_rfl) rfl Ary rfl (Ci k Tryd.underlying46 Ov rfl r18_0 (q:=(k:Int)) rfl rfl ha104) fun v103 r103=>?_
     have ⟨g105a,g105b⟩:=At.rng r103
     refine Bg (i:=3) Arc rfl (by kernel_rfl) rfl Ary rfl (Bc Ov rfl r103) ?_
     refine Bg (i:=4) Ark rfl (by kernel_rfl) rfl Ary rfl (Dg (p:=a104) (q:=0) rfl rfl) ?_
     refine Bg (i:=5) Aqg rfl (by kernel_rfl) rfl Ary rfl (Ah (v:=(.bool (a104 != 0))) rfl) ?_
     refine Akl (a104 != 0) (fun b106=>?_) (fun b106=>?_)
     ·have q106:=Mb b106
      refine Be (i:=6) Aqb rfl (by kernel_rfl) rfl Ary (Ar rfl rfl rfl b106) (Ah (v:=v64_0) h96_24) ?_
      refine Be (i:=7) Aoa rfl (by kernel_rfl) rfl Ary (Ar rfl rfl rfl b106) (Ah (v:=(iV ((k:Int)))) h96_28) ?_
      obtain ⟨a108,ha108⟩:=Ed (xs:=Sk l (rs ++ [x])) (i:=k) (by omega)
      refine Cd (i:=8) Amy rfl (by kernel_rfl) rfl Ary (Ar rfl rfl rfl b106) (Ci k Tryd.underlying46 Ov rfl r64_0 (q:=(k:Int)) rfl rfl ha108) fun v107 r107=>?_
      have ⟨g109a,g109b⟩:=At.rng r107
      refine Be (i:=9) Anr rfl (by kernel_rfl) rfl Ary (Ar rfl rfl rfl b106) (Bc Ov rfl r107) ?_
      refine Be (i:=10) [o1,o1,o1,o1,o1,o1,o1,o1,o1,o1,o1,o0,o0,o0,o0,o0] rfl (by kernel_rfl) rfl Ary (Ar rfl rfl rfl b106) (Ah (v:=v18_0) h96_9) ?_
      refine Bg (i:=11) [o1,o1,o1,o1,o1,o1,o1,o1,o1,o1,o1,o1,o0,o0,o0,o0] rfl (by kernel_rfl) rfl Ary (Ar rfl rfl rfl b106) (Ah (v:=(iV ((k:Int)))) h96_28) ?_
      refine Hl (i:=12) Ans rfl (by kernel_rfl) rfl Ary (Ar rfl rfl rfl b106) (Ci k Tryd.underlying46 Ov rfl r18_0 (q:=(k:Int)) rfl rfl ha104) fun v110 r110=>?_
      have ⟨g111a,g111b⟩:=At.rng r110
      refine Bg (i:=13) Apc rfl (by kernel_rfl) rfl Ary (Ar rfl rfl rfl b106) (Bc Ov rfl r110) ?_
      refine Bg (i:=14) Amv rfl (by kernel_rfl) rfl Ary (Ar rfl rfl rfl b106) (Dg (p:=a108) (q:=a104) rfl rfl) ?_
      refine Bg (i:=15) Apa rfl (by kernel_rfl) rfl Ary rfl (Bt rfl b106 (v:=(.bool (a108 != a104))) rfl) ?_
      refine Ec rfl ?_
      apply k102
      refine As (t:=a108 != a104) rfl (fun b112=>?_) (fun b112=>?_)
      ·have q112:=Mb b112
       refine w_q rfl rfl fun K113 k113=>?_
       refine l_A (.bool (false)) rfl rfl ?_
       apply Ac
       apply k113
       refine Aj (Arw (Arz (Arz (Arz (Arz (Arz (Arz (Arz (Arz (Arz (Arz l2 l3) l18) l21) l43) l44) l47) l55) l59) l64) l67)) ?_
       refine Aq ?_
       refine hret _ _ _ ?_
       refine ⟨rfl,rfl,Eq.trans (b:=(.bool (false))) rfl ?_⟩
       exfalso; exact absurd (hM2 _ _ _ ha104 ha108 (by omega)) (by omega)
      have q112:=Jh b112
      refine Al ?_
      apply k101
      refine Ag rfl rfl ?_
      refine Aa rfl (Ah (v:=(iV ((k:Int)))) h96_28) ?_
      refine Aa rfl (Br (p:=(k:Int)) (q:=1) rfl rfl (z:=(((k + 1):Nat):Int)) (Bo (by first | rfl | omega | (push_cast; rfl)) (by omega) (by omega))) ?_
      refine l_A (iV ((((k + 1):Nat):Int))) rfl rfl ?_
      apply Ac
      refine ⟨_,?_,((k + 1)),rfl,rfl,rfl,rfl,h96_9,h96_24,rfl,(by omega),trivial⟩
      omega
     have q106:=Jh b106
     refine Ua (i:=6) Aqb rfl (by kernel_rfl) rfl Ary (Bl rfl rfl rfl b106) ?_
     refine Ua (i:=7) Aoa rfl (by kernel_rfl) rfl Ary (Bl rfl rfl rfl b106) ?_
     refine Ua (i:=8) Amy rfl (by kernel_rfl) rfl Ary (Bl rfl rfl rfl b106) ?_
     refine Ua (i:=9) Anr rfl (by kernel_rfl) rfl Ary (Bl rfl rfl rfl b106) ?_
     refine Ua (i:=10) [o1,o1,o1,o1,o1,o1,o1,o1,o1,o1,o1,o0,o0,o0,o0,o0] rfl (by kernel_rfl) rfl Ary (Bl rfl rfl rfl b106) ?_
     refine Xl (i:=11) [o1,o1,o1,o1,o1,o1,o1,o1,o1,o1,o1,o1,o0,o0,o0,o0] rfl (by kernel_rfl) rfl Ary (Bl rfl rfl rfl b106) ?_
     refine Xl (i:=12) Ans rfl (by kernel_rfl) rfl Ary (Bl rfl rfl rfl b106) ?_
     refine Xl (i:=13) Apc rfl (by kernel_rfl) rfl Ary (Bl rfl rfl rfl b106) ?_
     refine Xl (i:=14) Amv rfl (by kernel_rfl) rfl Ary (Bl rfl rfl rfl b106) ?_
     refine Bg (i:=15) Apa rfl (by kernel_rfl) rfl Ary rfl (Bm rfl b106 (v:=(.bool (false))) rfl) ?_
     refine Ec rfl ?_
     apply k102
     refine Cg rfl rfl ?_
     refine Al ?_
     apply k101
     refine Ag rfl rfl ?_
     refine Aa rfl (Ah (v:=(iV ((k:Int)))) h96_28) ?_
     refine Aa rfl (Br (p:=(k:Int)) (q:=1) rfl rfl (z:=(((k + 1):Nat):Int)) (Bo (by first | rfl | omega | (push_cast; rfl)) (by omega) (by omega))) ?_
     refine l_A (iV ((((k + 1):Nat):Int))) rfl rfl ?_
     apply Ac
     refine ⟨_,?_,((k + 1)),rfl,rfl,rfl,rfl,h96_9,h96_24,rfl,(by omega),trivial⟩
     omega
    have q100:=of_decide_eq_false b100
    refine Bx ?_
    apply k94
    refine w_q rfl rfl fun K114 k114=>?_
    refine Ae rfl (Bn (vs:=[]) (v:=(.bool (true))) (c_tells hg hnr) Tryd.func17 rfl rfl trivial ?_)
    refine l_A (.bool (true)) rfl rfl ?_
    apply Ac
    apply k114
    refine Aj (Arw (Arz (Arz (Arz (Arz (Arz (Arz (Arz (Arz (Arz (Arz l2 l3) l18) l21) l43) l44) l47) l55) l59) l64) l67)) ?_
    refine Aq ?_
    refine hret _ _ _ ?_
    refine ⟨rfl,rfl,Eq.trans (b:=(.bool (true))) rfl ?_⟩
    rfl
   ·refine Bi (α:=Found) (xs:=[x]) (vs:=[v50]) Tryd.underlying41 Aax Ahd rfl (by decide) (Dl (os:=[.tmp 127]) ⟨rfl,trivial⟩) ⟨r50,trivial⟩ rfl (by decide) fun k115 cs115 R115=>⟨Ary,?_⟩
    have G115:Grow ρ47 43 (.slice (some ⟨k115,0,none⟩) 1 1) ([x]:List Found) [(k115,Res.obj (.cells cs115.toArray 43 (0,0)))]:=Bs R115 rfl (by decide)
    refine Ej (σ':=([(k51,Res.obj (.cells cs51.toArray 43 (0,0)))] ++ ([(k115,Res.obj (.cells cs115.toArray 43 (0,0)))] ++ σ))) (Arx (List.perm_append_comm_assoc ([(k115,Res.obj (.cells cs115.toArray 43 (0,0)))]) ([(k51,Res.obj (.cells cs51.toArray 43 (0,0)))]) _)) id ?_
    refine Dj (i:=2) Aog rfl (by kernel_rfl) rfl rfl (Fx (σ:=([(k115,Res.obj (.cells cs115.toArray 43 (0,0)))] ++ σ)) (gr:=[(k51,Res.obj (.cells cs51.toArray 43 (0,0)))]) (xs:=([]:List Found)) (ys:=rs) Tryd.underlying41 Tryd.underlying41 (Ab Tryd.typeInfo43) rfl (Nat.le_of_ble_eq_true rfl) rfl rfl rfl rfl G51 rr (by simp only [List.length_append,List.length_take,List.length_drop,List.length_cons,List.length_nil] at *; omega) fun v116 gr116 G116=>⟨Ary,?_⟩)
    refine Ej (σ':=([(k115,Res.obj (.cells cs115.toArray 43 (0,0)))] ++ (gr116 ++ σ))) (Arx (List.perm_append_comm_assoc gr116 ([(k115,Res.obj (.cells cs115.toArray 43 (0,0)))]) _)) id ?_
    refine Ls G115 fun ρ118 l118 r118=>?_
    replace rr:=Asa l118 rr
    replace hg:=Glob.mono l118 hg
    replace r2:=Arv l118 r2
    replace r3:=Arv l118 r3
    replace r18_0:=Asa l118 r18_0
    replace r50:=Asa l118 r50
    replace G116:=Grow.mono l118 G116
    refine Dj (i:=5) Aoi rfl (by kernel_rfl) rfl rfl (Fx (σ:=σ) (gr:=gr116) (xs:=(([]:List Found) ++ rs)) (ys:=([x]:List Found)) Tryd.underlying41 Tryd.underlying41 (Ab Tryd.typeInfo43) rfl (Nat.le_of_ble_eq_true rfl) rfl rfl rfl rfl G116 r118 (by simp only [List.length_append,List.length_take,List.length_drop,List.length_cons,List.length_nil] at *; omega) fun v117 gr117 G117=>⟨l118,?_⟩)
    refine Bg (i:=6) Amx rfl (by kernel_rfl) rfl l118 rfl (Cp (v:=v117) rfl) ?_
    refine Ec rfl ?_
    apply k49
    refine Ai fun K119 k119=>?_
    refine w_q rfl rfl fun K120 k120=>?_
    refine Ak rfl (Ax Aaj rfl r2) fun v121 r121=>?_
    refine l_M v117 rfl rfl ?_
    refine Ca G117 fun ρ122 l122 r122=>?_
    replace hg:=Glob.mono l122 hg
    replace r2:=Arv l122 r2
    replace r18_0:=Asa l122 r18_0
    replace r121:=Asa l122 r121
    refine Ae rfl (Bn (vs:=[v121,v117]) (v:=(iV (Cw l (((([]:List Found) ++ rs) ++ ([x]:List Found)))))) (c_refCheckResults r121 r122) Tryd.func24 rfl rfl ⟨rfl,rfl,trivial⟩ ?_)
    refine Aa rfl (Dg (p:=Cw l (((([]:List Found) ++ rs) ++ ([x]:List Found)))) (q:=0) rfl rfl) ?_
    apply Ac
    apply k120
    refine As (t:=Cw l (((([]:List Found) ++ rs) ++ ([x]:List Found))) != 0) rfl (fun b123=>?_) (fun b123=>?_)
    ·have q123:=Mb b123
     refine w_q rfl rfl fun K124 k124=>?_
     refine Ae rfl (Bn (vs:=[]) (v:=(.bool (true))) (c_tells hg hnr) Tryd.func17 rfl rfl trivial ?_)
     refine l_A (.bool (true)) rfl rfl ?_
     apply Ac
     apply k124
     refine Aj (Arw (Arz (Arz (Arz (Arz (Arz (Arz (Arz (Arz l2 l3) l18) l21) l43) l44) l47) l118) l122)) ?_
     refine Aq ?_
     refine hret _ _ _ ?_
     refine ⟨rfl,rfl,Eq.trans (b:=(.bool (true))) rfl ?_⟩
     rfl
    have hc2:Cw l (rs ++ [x]) = 0:=Jh b123
    obtain ⟨hM1,hM2,hM3⟩:=more_res hc0 hc2
    have q123:=Jh b123
    refine Al ?_
    apply k119
    refine w_q rfl rfl fun K125 k125=>?_
    refine Ak rfl (Ax Aaj rfl r2) fun v126 r126=>?_
    refine l_M v117 rfl rfl ?_
    refine Ae rfl (Cm (vs:=[v126,v117]) (c_BeliefsZ (rs:=(rs ++ [x])) hc2 rfl hg r126 r122) Tryd.func25 rfl rfl ⟨rfl,rfl,trivial⟩ fun w127 ρ127 σ127 hc127=>?_)
    obtain ⟨l127,s127,v127_0,w127e,r127_0⟩:=hc127
    replace s127:=s127.symm; subst s127 w127e
    replace hg:=Glob.mono l127 hg
    replace r2:=Arv l127 r2
    replace r18_0:=Asa l127 r18_0
    replace r122:=Asa l127 r122
    replace r126:=Asa l127 r126
    refine l_M (.tuple #[v127_0,(iV (0))]) rfl rfl ?_
    refine Aa rfl (Bk (vs:=#[v127_0,(iV (0))]) rfl (v:=v127_0) rfl) ?_
    refine Aa rfl (Bk (vs:=#[v127_0,(iV (0))]) rfl (v:=(iV (0))) rfl) ?_
    refine l_A v127_0 rfl rfl ?_
    refine l_A (iV (0)) rfl rfl ?_
    apply Ac
    apply k125
    refine w_q rfl rfl fun K128 k128=>?_
    refine Ak rfl (Ax Aaj rfl r2) fun v129 r129=>?_
    refine l_M v117 rfl rfl ?_
    refine Ae rfl (Cm (vs:=[v129,v117]) (c_TreeZ (rs:=(rs ++ [x])) hc2 rfl rfl hg r129 r122) Tryd.func26 rfl rfl ⟨rfl,rfl,trivial⟩ fun w130 ρ130 σ130 hc130=>?_)
    obtain ⟨l130,s130,v130_0,w130e,r130_0⟩:=hc130
    replace s130:=s130.symm; subst s130 w130e
    replace hg:=Glob.mono l130 hg
    replace r2:=Arv l130 r2
    replace r18_0:=Asa l130 r18_0
    replace r122:=Asa l130 r122
    replace r127_0:=Asa l130 r127_0
    replace r129:=Asa l130 r129
    refine l_M (.tuple #[v130_0,(iV (Xx l (rs ++ [x]))),(.bool (Yl l (rs ++ [x]))),(iV (0))]) rfl rfl ?_
    refine Aa rfl (Bk (vs:=#[v130_0,(iV (Xx l (rs ++ [x]))),(.bool (Yl l (rs ++ [x]))),(iV (0))]) rfl (v:=v130_0) rfl) ?_
    refine Aa rfl (Bk (vs:=#[v130_0,(iV (Xx l (rs ++ [x]))),(.bool (Yl l (rs ++ [x]))),(iV (0))]) rfl (v:=(iV (Xx l (rs ++ [x])))) rfl) ?_
    refine Aa rfl (Bk (vs:=#[v130_0,(iV (Xx l (rs ++ [x]))),(.bool (Yl l (rs ++ [x]))),(iV (0))]) rfl (v:=(.bool (Yl l (rs ++ [x])))) rfl) ?_
    refine Aa rfl (Bk (vs:=#[v130_0,(iV (Xx l (rs ++ [x]))),(.bool (Yl l (rs ++ [x]))),(iV (0))]) rfl (v:=(iV (0))) rfl) ?_
    refine l_A v130_0 rfl rfl ?_
    refine l_A (iV (Xx l (rs ++ [x]))) rfl rfl ?_
    refine l_A (.bool (Yl l (rs ++ [x]))) rfl rfl ?_
    refine l_A (iV (0)) rfl rfl ?_
    apply Ac
    apply k128
    refine Ai fun K131 k131=>?_
    refine w_q rfl rfl fun K132 k132=>?_
    refine l_M (iV (0)) rfl rfl ?_
    refine Aa rfl (Dg (p:=0) (q:=0) rfl rfl) ?_
    refine l_M (.bool (false)) rfl rfl ?_
    refine l_M (iV (0)) (Ar rfl rfl rfl rfl) rfl ?_
    refine Aa (Ar rfl rfl rfl rfl) (Dg (p:=0) (q:=0) rfl rfl) ?_
    refine Aa rfl (Bm rfl rfl (v:=(.bool (false))) rfl) ?_
    refine l_M (.bool (false)) rfl rfl ?_
    refine l_M v127_0 (Ar rfl rfl rfl rfl) rfl ?_
    have g133:=Val.len r127_0
    refine Aa (Ar rfl rfl rfl rfl) (Ce (el:=53) Tryd.underlying46 rfl r127_0) ?_
    refine l_M v18_0 (Ar rfl rfl rfl rfl) rfl ?_
    have g134:=Val.len r18_0
    refine Aa (Ar rfl rfl rfl rfl) (Ce (el:=53) Tryd.underlying46 rfl r18_0) ?_
    refine Aa (Ar rfl rfl rfl rfl) (Dg (p:=(((Sk l (rs ++ [x])).length:Nat):Int)) (q:=(((Sk l rs).length:Nat):Int)) rfl rfl) ?_
    refine Aa rfl (Bm rfl rfl (v:=(.bool ((((Sk l (rs ++ [x])).length:Nat):Int) != (((Sk l rs).length:Nat):Int)))) rfl) ?_
    refine l_M (.bool ((((Sk l (rs ++ [x])).length:Nat):Int) != (((Sk l rs).length:Nat):Int))) rfl rfl ?_
    refine l_M (.bool (Yl l rs)) (Ar rfl rfl rfl (by rw [hM1]; simp)) rfl ?_
    refine l_M (.bool (Yl l rs)) (Ar rfl rfl rfl (by rw [hM1]; simp)) rfl ?_
    refine Cn (Yl l rs) (fun b135=>?_) (fun b135=>?_)
    ·refine Aa (Ar rfl rfl rfl b135) (Ah (v:=(.bool (Yl l (rs ++ [x])))) rfl) ?_
     refine Aa (Ar rfl rfl rfl b135) (Ix (k:=Yl l (rs ++ [x])) rfl) ?_
     refine l_M (.bool (!(Yl l (rs ++ [x])))) (Ar rfl rfl rfl b135) rfl ?_
     refine l_M (iV (Xx l (rs ++ [x]))) (Ar rfl rfl rfl (not_t (hM3 b135).1)) rfl ?_
     refine l_M (iV (Xx l rs)) (Ar rfl rfl rfl (not_t (hM3 b135).1)) rfl ?_
     refine Aa (Ar rfl rfl rfl (not_t (hM3 b135).1)) (Gk (p:=Xx l (rs ++ [x])) (q:=Xx l rs) rfl rfl) ?_
     refine Aa (Ar rfl rfl rfl b135) (Bm rfl (not_t (hM3 b135).1) (v:=(.bool (decide (Xx l (rs ++ [x]) > Xx l rs)))) rfl) ?_
     refine Aa (Ar rfl rfl rfl (by rw [hM1]; simp)) (Bt rfl b135 (v:=(.bool (decide (Xx l (rs ++ [x]) > Xx l rs)))) rfl) ?_
     refine Aa rfl (Bm rfl (by rw [hM1]; simp) (v:=(.bool (decide (Xx l (rs ++ [x]) > Xx l rs)))) rfl) ?_
     apply Ac
     apply k132
     refine Cg rfl (decide_eq_false (by have:=(hM3 b135).2; omega)) ?_
     refine Al ?_
     apply k131
     refine Ai fun K136 k136=>?_
     refine w_q rfl rfl fun K137 k137=>?_
     refine l_A (iV (0)) rfl rfl ?_
     apply Ac
     apply k137
     refine Ao ?_
     refine Cc (fun mm ee dd ρ' σ'=>∃ (k:Nat),((Sk l rs).length - k) = mm∧[] = dd∧ρ130 = ρ'∧σ = σ'∧ee 9 = v18_0∧ee 24 = v127_0∧ee 28 = (iV ((k:Int)))∧(k ≤ (Sk l rs).length)∧True) (m:=_) ⟨0,rfl,rfl,rfl,rfl,rfl,rfl,rfl,(Nat.zero_le _),trivial⟩ ?_
     rintro m138 e138 _ _ _ ⟨k,rfl,rfl,rfl,rfl,h138_9,h138_24,h138_28,p138_0,_⟩
     refine Ai fun K139 k139=>?_
     refine w_q rfl rfl fun K140 k140=>?_
     refine Aa rfl (Ah (v:=(iV ((k:Int)))) h138_28) ?_
     refine Aa rfl (Ah (v:=v18_0) h138_9) ?_
     have g141:=Val.len r18_0
     refine Aa rfl (Ce (el:=53) Tryd.underlying46 rfl r18_0) ?_
     refine Aa rfl (Da (p:=(k:Int)) (q:=(((Sk l rs).length:Nat):Int)) rfl rfl) ?_
     apply Ac
     apply k140
     refine As (t:=decide ((k:Int) < (((Sk l rs).length:Nat):Int))) rfl (fun b142=>?_) (fun b142=>?_)
     ·have q142:=of_decide_eq_true b142
      refine Al ?_
      apply k139
      refine Ai fun K143 k143=>?_
      refine Ao ?_
      refine Ai fun K144 k144=>?_
      refine Dc [0,1,2,3,4,5,6,7,8,9,10,11,12,13,14,15] (by kernel_rfl) rfl rfl ?_
      refine Be (i:=0) Apx rfl (by kernel_rfl) rfl Ary rfl (Ah (v:=v18_0) h138_9) ?_
      refine Bg (i:=1) Arn rfl (by kernel_rfl) rfl Ary rfl (Ah (v:=(iV ((k:Int)))) h138_28) ?_
      obtain ⟨a146,ha146⟩:=Ed (xs:=Sk l rs) (i:=k) (by omega)
      refine Hl (i:=2) Aqz rfl (by kernel_rfl) rfl Ary rfl (Ci k Tryd.underlying46 Ov rfl r18_0 (q:=(k:Int)) rfl rfl ha146) fun v145 r145=>?_
      have ⟨g147a,g147b⟩:=At.rng r145
      refine Bg (i:=3) Arc rfl (by kernel_rfl) rfl Ary rfl (Bc Ov rfl r145) ?_
      refine Bg (i:=4) Ark rfl (by kernel_rfl) rfl Ary rfl (Dg (p:=a146) (q:=0) rfl rfl) ?_
      refine Bg (i:=5) Aqg rfl (by kernel_rfl) rfl Ary rfl (Ah (v:=(.bool (a146 != 0))) rfl) ?_
      refine Akl (a146 != 0) (fun b148=>?_) (fun b148=>?_)
      ·have q148:=Mb b148
       refine Be (i:=6) Aqb rfl (by kernel_rfl) rfl Ary (Ar rfl rfl rfl b148) (Ah (v:=v127_0) h138_24) ?_
       refine Be (i:=7) Aoa rfl (by kernel_rfl) rfl Ary (Ar rfl rfl rfl b148) (Ah (v:=(iV ((k:Int)))) h138_28) ?_
       obtain ⟨a150,ha150⟩:=Ed (xs:=Sk l (rs ++ [x])) (i:=k) (by omega)
       refine Cd (i:=8) Amy rfl (by kernel_rfl) rfl Ary (Ar rfl rfl rfl b148) (Ci k Tryd.underlying46 Ov rfl r127_0 (q:=(k:Int)) rfl rfl ha150) fun v149 r149=>?_
       have ⟨g151a,g151b⟩:=At.rng r149
       refine Be (i:=9) Anr rfl (by kernel_rfl) rfl Ary (Ar rfl rfl rfl b148) (Bc Ov rfl r149) ?_
       refine Be (i:=10) [o1,o1,o1,o1,o1,o1,o1,o1,o1,o1,o1,o0,o0,o0,o0,o0] rfl (by kernel_rfl) rfl Ary (Ar rfl rfl rfl b148) (Ah (v:=v18_0) h138_9) ?_
       refine Bg (i:=11) [o1,o1,o1,o1,o1,o1,o1,o1,o1,o1,o1,o1,o0,o0,o0,o0] rfl (by kernel_rfl) rfl Ary (Ar rfl rfl rfl b148) (Ah (v:=(iV ((k:Int)))) h138_28) ?_
       refine Hl (i:=12) Ans rfl (by kernel_rfl) rfl Ary (Ar rfl rfl rfl b148) (Ci k Tryd.underlying46 Ov rfl r18_0 (q:=(k:Int)) rfl rfl ha146) fun v152 r152=>?_
       have ⟨g153a,g153b⟩:=At.rng r152
       refine Bg (i:=13) Apc rfl (by kernel_rfl) rfl Ary (Ar rfl rfl rfl b148) (Bc Ov rfl r152) ?_
       refine Bg (i:=14) Amv rfl (by kernel_rfl) rfl Ary (Ar rfl rfl rfl b148) (Dg (p:=a150) (q:=a146) rfl rfl) ?_
       refine Bg (i:=15) Apa rfl (by kernel_rfl) rfl Ary rfl (Bt rfl b148 (v:=(.bool (a150 != a146))) rfl) ?_
       refine Ec rfl ?_
       apply k144
       refine As (t:=a150 != a146) rfl (fun b154=>?_) (fun b154=>?_)
       ·have q154:=Mb b154
        refine w_q rfl rfl fun K155 k155=>?_
        refine l_A (.bool (false)) rfl rfl ?_
        apply Ac
        apply k155
        refine Aj (Arw (Arz (Arz (Arz (Arz (Arz (Arz (Arz (Arz (Arz (Arz l2 l3) l18) l21) l43) l44) l47) l118) l122) l127) l130)) ?_
        refine Aq ?_
        refine hret _ _ _ ?_
        refine ⟨rfl,rfl,Eq.trans (b:=(.bool (false))) rfl ?_⟩
        exfalso; exact absurd (hM2 _ _ _ ha146 ha150 (by omega)) (by omega)
       have q154:=Jh b154
       refine Al ?_
       apply k143
       refine Ag rfl rfl ?_
       refine Aa rfl (Ah (v:=(iV ((k:Int)))) h138_28) ?_
       refine Aa rfl (Br (p:=(k:Int)) (q:=1) rfl rfl (z:=(((k + 1):Nat):Int)) (Bo (by first | rfl | omega | (push_cast; rfl)) (by omega) (by omega))) ?_
       refine l_A (iV ((((k + 1):Nat):Int))) rfl rfl ?_
       apply Ac
       refine ⟨_,?_,((k + 1)),rfl,rfl,rfl,rfl,h138_9,h138_24,rfl,(by omega),trivial⟩
       omega
      have q148:=Jh b148
      refine Ua (i:=6) Aqb rfl (by kernel_rfl) rfl Ary (Bl rfl rfl rfl b148) ?_
      refine Ua (i:=7) Aoa rfl (by kernel_rfl) rfl Ary (Bl rfl rfl rfl b148) ?_
      refine Ua (i:=8) Amy rfl (by kernel_rfl) rfl Ary (Bl rfl rfl rfl b148) ?_
      refine Ua (i:=9) Anr rfl (by kernel_rfl) rfl Ary (Bl rfl rfl rfl b148) ?_
      refine Ua (i:=10) [o1,o1,o1,o1,o1,o1,o1,o1,o1,o1,o1,o0,o0,o0,o0,o0] rfl (by kernel_rfl) rfl Ary (Bl rfl rfl rfl b148) ?_
      refine Xl (i:=11) [o1,o1,o1,o1,o1,o1,o1,o1,o1,o1,o1,o1,o0,o0,o0,o0] rfl (by kernel_rfl) rfl Ary (Bl rfl rfl rfl b148) ?_
      refine Xl (i:=12) Ans rfl (by kernel_rfl) rfl Ary (Bl rfl rfl rfl b148) ?_
      refine Xl (i:=13) Apc rfl (by kernel_rfl) rfl Ary (Bl rfl rfl rfl b148) ?_
      refine Xl (i:=14) Amv rfl (by kernel_rfl) rfl Ary (Bl rfl rfl rfl b148) ?_
      refine Bg (i:=15) Apa rfl (by kernel_rfl) rfl Ary rfl (Bm rfl b148 (v:=(.bool (false))) rfl) ?_
      refine Ec rfl ?_
      apply k144
      refine Cg rfl rfl ?_
      refine Al ?_
      apply k143
      refine Ag rfl rfl ?_
      refine Aa rfl (Ah (v:=(iV ((k:Int)))) h138_28) ?_
      refine Aa rfl (Br (p:=(k:Int)) (q:=1) rfl rfl (z:=(((k + 1):Nat):Int)) (Bo (by first | rfl | omega | (push_cast; rfl)) (by omega) (by omega))) ?_
      refine l_A (iV ((((k + 1):Nat):Int))) rfl rfl ?_
      apply Ac
      refine ⟨_,?_,((k + 1)),rfl,rfl,rfl,rfl,h138_9,h138_24,rfl,(by omega),trivial⟩
      omega
     have q142:=of_decide_eq_false b142
     refine Bx ?_
     apply k136
     refine w_q rfl rfl fun K156 k156=>?_
     refine Ae rfl (Bn (vs:=[]) (v:=(.bool (true))) (c_tells hg hnr) Tryd.func17 rfl rfl trivial ?_)
     refine l_A (.bool (true)) rfl rfl ?_
     apply Ac
     apply k156
     refine Aj (Arw (Arz (Arz (Arz (Arz (Arz (Arz (Arz (Arz (Arz (Arz l2 l3) l18) l21) l43) l44) l47) l118) l122) l127) l130)) ?_
     refine Aq ?_
     refine hret _ _ _ ?_
     refine ⟨rfl,rfl,Eq.trans (b:=(.bool (true))) rfl ?_⟩
     rfl
    refine Ap (Bl rfl rfl rfl b135) ?_
    refine Ap (Bl rfl rfl rfl b135) ?_
    refine Ap (Bl rfl rfl rfl b135) ?_
    refine Ap (Jf rfl rfl rfl) ?_
    refine Ap (Jf rfl rfl rfl) ?_
    refine Ap (Jf rfl rfl rfl) ?_
    refine Ap (Bl rfl rfl rfl b135) ?_
    refine Aa (Ar rfl rfl rfl (by rw [hM1]; simp)) (Bm rfl b135 (v:=(.bool (false))) rfl) ?_
    refine Aa rfl (Bm rfl (by rw [hM1]; simp) (v:=(.bool (false))) rfl) ?_
    apply Ac
    apply k132
    refine Cg rfl rfl ?_
    refine Al ?_
    apply k131
    refine Ai fun K157 k157=>?_
    refine w_q rfl rfl fun K158 k158=>?_
    refine l_A (iV (0)) rfl rfl ?_
    apply Ac
    apply k158
    refine Ao ?_
    refine Cc (fun mm ee dd ρ' σ'=>∃ (k:Nat),((Sk l rs).length - k) = mm∧[] = dd∧ρ130 = ρ'∧σ = σ'∧ee 9 = v18_0∧ee 24 = v127_0∧ee 28 = (iV ((k:Int)))∧(k ≤ (Sk l rs).length)∧True) (m:=_) ⟨0,rfl,rfl,rfl,rfl,rfl,rfl,rfl,(Nat.zero_le _),trivial⟩ ?_
    rintro m159 e159 _ _ _ ⟨k,rfl,rfl,rfl,rfl,h159_9,h159_24,h159_28,p159_0,_⟩
    refine Ai fun K160 k160=>?_
    refine w_q rfl rfl fun K161 k161=>?_
    refine Aa rfl (Ah (v:=(iV ((k:Int)))) h159_28) ?_
    refine Aa rfl (Ah (v:=v18_0) h159_9) ?_
    have g162:=Val.len r18_0
    refine Aa rfl (Ce (el:=53) Tryd.underlying46 rfl r18_0) ?_
    refine Aa rfl (Da (p:=(k:Int)) (q:=(((Sk l rs).length:Nat):Int)) rfl rfl) ?_
    apply Ac
    apply k161
    refine As (t:=decide ((k:Int) < (((Sk l rs).length:Nat):Int))) rfl (fun b163=>?_) (fun b163=>?_)
    ·have q163:=of_decide_eq_true b163
     refine Al ?_
     apply k160
     refine Ai fun K164 k164=>?_
     refine Ao ?_
     refine Ai fun K165 k165=>?_
     refine Dc [0,1,2,3,4,5,6,7,8,9,10,11,12,13,14,15] (by kernel_rfl) rfl rfl ?_
     refine Be (i:=0) Apx rfl (by kernel_rfl) rfl Ary rfl (Ah (v:=v18_0) h159_9) ?_
     refine Bg (i:=1) Arn rfl (by kernel_rfl) rfl Ary rfl (Ah (v:=(iV ((k:Int)))) h159_28) ?_
     obtain ⟨a167,ha167⟩:=Ed (xs:=Sk l rs) (i:=k) (by omega)
     refine Hl (i:=2) Aqz rfl (by kernel_rfl) rfl Ary rfl (Ci k Tryd.underlying46 Ov rfl r18_0 (q:=(k:Int)) rfl rfl ha167) fun v166 r166=>?_
     have ⟨g168a,g168b⟩:=At.rng r166
     refine Bg (i:=3) Arc rfl (by kernel_rfl) rfl Ary rfl (Bc Ov rfl r166) ?_
     refine Bg (i:=4) Ark rfl (by kernel_rfl) rfl Ary rfl (Dg (p:=a167) (q:=0) rfl rfl) ?_
     refine Bg (i:=5) Aqg rfl (by kernel_rfl) rfl Ary rfl (Ah (v:=(.bool (a167 != 0))) rfl) ?_
     refine Akl (a167 != 0) (fun b169=>?_) (fun b169=>?_)
     ·have q169:=Mb b169
      refine Be (i:=6) Aqb rfl (by kernel_rfl) rfl Ary (Ar rfl rfl rfl b169) (Ah (v:=v127_0) h159_24) ?_
      refine Be (i:=7) Aoa rfl (by kernel_rfl) rfl Ary (Ar rfl rfl rfl b169) (Ah (v:=(iV ((k:Int)))) h159_28) ?_
      obtain ⟨a171,ha171⟩:=Ed (xs:=Sk l (rs ++ [x])) (i:=k) (by omega)
      refine Cd (i:=8) Amy rfl (by kernel_rfl) rfl Ary (Ar rfl rfl rfl b169) (Ci k Tryd.underlying46 Ov rfl r127_0 (q:=(k:Int)) rfl rfl ha171) fun v170 r170=>?_
      have ⟨g172a,g172b⟩:=At.rng r170
      refine Be (i:=9) Anr rfl (by kernel_rfl) rfl Ary (Ar rfl rfl rfl b169) (Bc Ov rfl r170) ?_
      refine Be (i:=10) [o1,o1,o1,o1,o1,o1,o1,o1,o1,o1,o1,o0,o0,o0,o0,o0] rfl (by kernel_rfl) rfl Ary (Ar rfl rfl rfl b169) (Ah (v:=v18_0) h159_9) ?_
      refine Bg (i:=11) [o1,o1,o1,o1,o1,o1,o1,o1,o1,o1,o1,o1,o0,o0,o0,o0] rfl (by kernel_rfl) rfl Ary (Ar rfl rfl rfl b169) (Ah (v:=(iV ((k:Int)))) h159_28) ?_
      refine Hl (i:=12) Ans rfl (by kernel_rfl) rfl Ary (Ar rfl rfl rfl b169) (Ci k Tryd.underlying46 Ov rfl r18_0 (q:=(k:Int)) rfl rfl ha167) fun v173 r173=>?_
      have ⟨g174a,g174b⟩:=At.rng r173
      refine Bg (i:=13) Apc rfl (by kernel_rfl) rfl Ary (Ar rfl rfl rfl b169) (Bc Ov rfl r173) ?_
      refine Bg (i:=14) Amv rfl (by kernel_rfl) rfl Ary (Ar rfl rfl rfl b169) (Dg (p:=a171) (q:=a167) rfl rfl) ?_
      refine Bg (i:=15) Apa rfl (by kernel_rfl) rfl Ary rfl (Bt rfl b169 (v:=(.bool (a171 != a167))) rfl) ?_
      refine Ec rfl ?_
      apply k165
      refine As (t:=a171 != a167) rfl (fun b175=>?_) (fun b175=>?_)
      ·have q175:=Mb b175
       refine w_q rfl rfl fun K176 k176=>?_
       refine l_A (.bool (false)) rfl rfl ?_
       apply Ac
       apply k176
       refine Aj (Arw (Arz (Arz (Arz (Arz (Arz (Arz (Arz (Arz (Arz (Arz l2 l3) l18) l21) l43) l44) l47) l118) l122) l127) l130)) ?_
       refine Aq ?_
       refine hret _ _ _ ?_
       refine ⟨rfl,rfl,Eq.trans (b:=(.bool (false))) rfl ?_⟩
       exfalso; exact absurd (hM2 _ _ _ ha167 ha171 (by omega)) (by omega)
      have q175:=Jh b175
      refine Al ?_
      apply k164
      refine Ag rfl rfl ?_
      refine Aa rfl (Ah (v:=(iV ((k:Int)))) h159_28) ?_
      refine Aa rfl (Br (p:=(k:Int)) (q:=1) rfl rfl (z:=(((k + 1):Nat):Int)) (Bo (by first | rfl | omega | (push_cast; rfl)) (by omega) (by omega))) ?_
      refine l_A (iV ((((k + 1):Nat):Int))) rfl rfl ?_
      apply Ac
      refine ⟨_,?_,((k + 1)),rfl,rfl,rfl,rfl,h159_9,h159_24,rfl,(by omega),trivial⟩
      omega
     have q169:=Jh b169
     refine Ua (i:=6) Aqb rfl (by kernel_rfl) rfl Ary (Bl rfl rfl rfl b169) ?_
     refine Ua (i:=7) Aoa rfl (by kernel_rfl) rfl Ary (Bl rfl rfl rfl b169) ?_
     refine Ua (i:=8) Amy rfl (by kernel_rfl) rfl Ary (Bl rfl rfl rfl b169) ?_
     refine Ua (i:=9) Anr rfl (by kernel_rfl) rfl Ary (Bl rfl rfl rfl b169) ?_
     refine Ua (i:=10) [o1,o1,o1,o1,o1,o1,o1,o1,o1,o1,o1,o0,o0,o0,o0,o0] rfl (by kernel_rfl) rfl Ary (Bl rfl rfl rfl b169) ?_
     refine Xl (i:=11) [o1,o1,o1,o1,o1,o1,o1,o1,o1,o1,o1,o1,o0,o0,o0,o0] rfl (by kernel_rfl) rfl Ary (Bl rfl rfl rfl b169) ?_
     refine Xl (i:=12) Ans rfl (by kernel_rfl) rfl Ary (Bl rfl rfl rfl b169) ?_
     refine Xl (i:=13) Apc rfl (by kernel_rfl) rfl Ary (Bl rfl rfl rfl b169) ?_
     refine Xl (i:=14) Amv rfl (by kernel_rfl) rfl Ary (Bl rfl rfl rfl b169) ?_
     refine Bg (i:=15) Apa rfl (by kernel_rfl) rfl Ary rfl (Bm rfl b169 (v:=(.bool (false))) rfl) ?_
     refine Ec rfl ?_
     apply k165
     refine Cg rfl rfl ?_
     refine Al ?_
     apply k164
     refine Ag rfl rfl ?_
     refine Aa rfl (Ah (v:=(iV ((k:Int)))) h159_28) ?_
     refine Aa rfl (Br (p:=(k:Int)) (q:=1) rfl rfl (z:=(((k + 1):Nat):Int)) (Bo (by first | rfl | omega | (push_cast; rfl)) (by omega) (by omega))) ?_
     refine l_A (iV ((((k + 1):Nat):Int))) rfl rfl ?_
     apply Ac
     refine ⟨_,?_,((k + 1)),rfl,rfl,rfl,rfl,h159_9,h159_24,rfl,(by omega),trivial⟩
     omega
    have q163:=of_decide_eq_false b163
    refine Bx ?_
    apply k157
    refine w_q rfl rfl fun K177 k177=>?_
    refine Ae rfl (Bn (vs:=[]) (v:=(.bool (true))) (c_tells hg hnr) Tryd.func17 rfl rfl trivial ?_)
    refine l_A (.bool (true)) rfl rfl ?_
    apply Ac
    apply k177
    refine Aj (Arw (Arz (Arz (Arz (Arz (Arz (Arz (Arz (Arz (Arz (Arz l2 l3) l18) l21) l43) l44) l47) l118) l122) l127) l130)) ?_
    refine Aq ?_
    refine hret _ _ _ ?_
    refine ⟨rfl,rfl,Eq.trans (b:=(.bool (true))) rfl ?_⟩
    rfl
  ·refine Bi (α:=Found) (xs:=[x]) (vs:=[v50]) Tryd.underlying41 Aax Ahd rfl (by decide) (Dl (os:=[.tmp 127]) ⟨rfl,trivial⟩) ⟨r50,trivial⟩ rfl (by decide) fun k178 cs178 R178=>⟨Ary,?_⟩
   have G178:Grow ρ47 43 (.slice (some ⟨k178,0,none⟩) 1 1) ([x]:List Found) [(k178,Res.obj (.cells cs178.toArray 43 (0,0)))]:=Bs R178 rfl (by decide)
   refine Dj (i:=0) [o1,o1,o0,o1,o1,o0,o0] rfl (by kernel_rfl) rfl rfl (Bi (α:=Found) (xs:=[]) (vs:=[]) Tryd.underlying41 Aax Ahd rfl (by decide) rfl trivial rfl (by decide) fun k179 cs179 R179=>⟨Ary,?_⟩)
   have G179:Grow ρ47 43 (.slice (some ⟨k179,0,none⟩) 0 0) ([]:List Found) [(k179,Res.obj (.cells cs179.toArray 43 (0,0)))]:=Bs R179 rfl (by decide)
   refine Dj (i:=2) Aog rfl (by kernel_rfl) rfl rfl (Fx (σ:=([(k178,Res.obj (.cells cs178.toArray 43 (0,0)))] ++ σ)) (gr:=[(k179,Res.obj (.cells cs179.toArray 43 (0,0)))]) (xs:=([]:List Found)) (ys:=rs) Tryd.underlying41 Tryd.underlying41 (Ab Tryd.typeInfo43) rfl (Nat.le_of_ble_eq_true rfl) rfl rfl rfl rfl G179 rr (by simp only [List.length_append,List.length_take,List.length_drop,List.length_cons,List.length_nil] at *; omega) fun v180 gr180 G180=>⟨Ary,?_⟩)
   refine Ej (σ':=([(k178,Res.obj (.cells cs178.toArray 43 (0,0)))] ++ (gr180 ++ σ))) (Arx (List.perm_append_comm_assoc gr180 ([(k178,Res.obj (.cells cs178.toArray 43 (0,0)))]) _)) id ?_
   refine Ls G178 fun ρ182 l182 r182=>?_
   replace rr:=Asa l182 rr
   replace hg:=Glob.mono l182 hg
   replace r2:=Arv l182 r2
   replace r3:=Arv l182 r3
   replace r18_0:=Asa l182 r18_0
   replace r50:=Asa l182 r50
   replace G180:=Grow.mono l182 G180
   refine Dj (i:=5) Aoi rfl (by kernel_rfl) rfl rfl (Fx (σ:=σ) (gr:=gr180) (xs:=(([]:List Found) ++ rs)) (ys:=([x]:List Found)) Tryd.underlying41 Tryd.underlying41 (Ab Tryd.typeInfo43) rfl (Nat.le_of_ble_eq_true rfl) rfl rfl rfl rfl G180 r182 (by simp only [List.length_append,List.length_take,List.length_drop,List.length_cons,List.length_nil] at *; omega) fun v181 gr181 G181=>⟨l182,?_⟩)
   refine Bg (i:=6) Amx rfl (by kernel_rfl) rfl l182 rfl (Cp (v:=v181) rfl) ?_
   refine Ec rfl ?_
   apply k49
   refine Ai fun K183 k183=>?_
   refine w_q rfl rfl fun K184 k184=>?_
   refine Ak rfl (Ax Aaj rfl r2) fun v185 r185=>?_
   refine l_M v181 rfl rfl ?_
   refine Ca G181 fun ρ186 l186 r186=>?_
   replace hg:=Glob.mono l186 hg
   replace r2:=Arv l186 r2
   replace r18_0:=Asa l186 r18_0
   replace r185:=Asa l186 r185
   refine Ae rfl (Bn (vs:=[v185,v181]) (v:=(iV (Cw l (((([]:List Found) ++ rs) ++ ([x]:List Found)))))) (c_refCheckResults r185 r186) Tryd.func24 rfl rfl ⟨rfl,rfl,trivial⟩ ?_)
   refine Aa rfl (Dg (p:=Cw l (((([]:List Found) ++ rs) ++ ([x]:List Found)))) (q:=0) rfl rfl) ?_
   apply Ac
   apply k184
   refine As (t:=Cw l (((([]:List Found) ++ rs) ++ ([x]:List Found))) != 0) rfl (fun b187=>?_) (fun b187=>?_)
   ·have q187:=Mb b187
    refine w_q rfl rfl fun K188 k188=>?_
    refine Ae rfl (Bn (vs:=[]) (v:=(.bool (true))) (c_tells hg hnr) Tryd.func17 rfl rfl trivial ?_)
    refine l_A (.bool (true)) rfl rfl ?_
    apply Ac
    apply k188
    refine Aj (Arw (Arz (Arz (Arz (Arz (Arz (Arz (Arz (Arz l2 l3) l18) l21) l43) l44) l47) l182) l186)) ?_
    refine Aq ?_
    refine hret _ _ _ ?_
    refine ⟨rfl,rfl,Eq.trans (b:=(.bool (true))) rfl ?_⟩
    rfl
   have hc2:Cw l (rs ++ [x]) = 0:=Jh b187
   obtain ⟨hM1,hM2,hM3⟩:=more_res hc0 hc2
   have q187:=Jh b187
   refine Al ?_
   apply k183
   refine w_q rfl rfl fun K189 k189=>?_
   refine Ak rfl (Ax Aaj rfl r2) fun v190 r190=>?_
   refine l_M v181 rfl rfl ?_
   refine Ae rfl (Cm (vs:=[v190,v181]) (c_BeliefsZ (rs:=(rs ++ [x])) hc2 rfl hg r190 r186) Tryd.func25 rfl rfl ⟨rfl,rfl,trivial⟩ fun w191 ρ191 σ191 hc191=>?_)
   obtain ⟨l191,s191,v191_0,w191e,r191_0⟩:=hc191
   replace s191:=s191.symm; subst s191 w191e
   replace hg:=Glob.mono l191 hg
   replace r2:=Arv l191 r2
   replace r18_0:=Asa l191 r18_0
   replace r186:=Asa l191 r186
   replace r190:=Asa l191 r190
   refine l_M (.tuple #[v191_0,(iV (0))]) rfl rfl ?_
   refine Aa rfl (Bk (vs:=#[v191_0,(iV (0))]) rfl (v:=v191_0) rfl) ?_
   refine Aa rfl (Bk (vs:=#[v191_0,(iV (0))]) rfl (v:=(iV (0))) rfl) ?_
   refine l_A v191_0 rfl rfl ?_
   refine l_A (iV (0)) rfl rfl ?_
   apply Ac
   apply k189
   refine w_q rfl rfl fun K192 k192=>?_
   refine Ak rfl (Ax Aaj rfl r2) fun v193 r193=>?_
   refine l_M v181 rfl rfl ?_
   refine Ae rfl (Cm (vs:=[v193,v181]) (c_TreeZ (rs:=(rs ++ [x])) hc2 rfl rfl hg r193 r186) Tryd.func26 rfl rfl ⟨rfl,rfl,trivial⟩ fun w194 ρ194 σ194 hc194=>?_)
   obtain ⟨l194,s194,v194_0,w194e,r194_0⟩:=hc194
   replace s194:=s194.symm; subst s194 w194e
   replace hg:=Glob.mono l194 hg
   replace r2:=Arv l194 r2
   replace r18_0:=Asa l194 r18_0
   replace r186:=Asa l194 r186
   replace r191_0:=Asa l194 r191_0
   replace r193:=Asa l194 r193
   refine l_M (.tuple #[v194_0,(iV (Xx l (rs ++ [x]))),(.bool (Yl l (rs ++ [x]))),(iV (0))]) rfl rfl ?_
   refine Aa rfl (Bk (vs:=#[v194_0,(iV (Xx l (rs ++ [x]))),(.bool (Yl l (rs ++ [x]))),(iV (0))]) rfl (v:=v194_0) rfl) ?_
   refine Aa rfl (Bk (vs:=#[v194_0,(iV (Xx l (rs ++ [x]))),(.bool (Yl l (rs ++ [x]))),(iV (0))]) rfl (v:=(iV (Xx l (rs ++ [x])))) rfl) ?_
   refine Aa rfl (Bk (vs:=#[v194_0,(iV (Xx l (rs ++ [x]))),(.bool (Yl l (rs ++ [x]))),(iV (0))]) rfl (v:=(.bool (Yl l (rs ++ [x])))) rfl) ?_
   refine Aa rfl (Bk (vs:=#[v194_0,(iV (Xx l (rs ++ [x]))),(.bool (Yl l (rs ++ [x]))),(iV (0))]) rfl (v:=(iV (0))) rfl) ?_
   refine l_A v194_0 rfl rfl ?_
   refine l_A (iV (Xx l (rs ++ [x]))) rfl rfl ?_
   refine l_A (.bool (Yl l (rs ++ [x]))) rfl rfl ?_
   refine l_A (iV (0)) rfl rfl ?_
   apply Ac
   apply k192
   refine Ai fun K195 k195=>?_
   refine w_q rfl rfl fun K196 k196=>?_
   refine l_M (iV (0)) rfl rfl ?_
   refine Aa rfl (Dg (p:=0) (q:=0) rfl rfl) ?_
   refine l_M (.bool (false)) rfl rfl ?_
   refine l_M (iV (0)) (Ar rfl rfl rfl rfl) rfl ?_
   refine Aa (Ar rfl rfl rfl rfl) (Dg (p:=0) (q:=0) rfl rfl) ?_
   refine Aa rfl (Bm rfl rfl (v:=(.bool (false))) rfl) ?_
   refine l_M (.bool (false)) rfl rfl ?_
   refine l_M v191_0 (Ar rfl rfl rfl rfl) rfl ?_
   have g197:=Val.len r191_0
   refine Aa (Ar rfl rfl rfl rfl) (Ce (el:=53) Tryd.underlying46 rfl r191_0) ?_
   refine l_M v18_0 (Ar rfl rfl rfl rfl) rfl ?_
   have g198:=Val.len r18_0
   refine Aa (Ar rfl rfl rfl rfl) (Ce (el:=53) Tryd.underlying46 rfl r18_0) ?_
   refine Aa (Ar rfl rfl rfl rfl) (Dg (p:=(((Sk l (rs ++ [x])).length:Nat):Int)) (q:=(((Sk l rs).length:Nat):Int)) rfl rfl) ?_
   refine Aa rfl (Bm rfl rfl (v:=(.bool ((((Sk l (rs ++ [x])).length:Nat):Int) != (((Sk l rs).length:Nat):Int)))) rfl) ?_
   refine l_M (.bool ((((Sk l (rs ++ [x])).length:Nat):Int) != (((Sk l rs).length:Nat):Int))) rfl rfl ?_
   refine l_M (.bool (Yl l rs)) (Ar rfl rfl rfl (by rw [hM1]; simp)) rfl ?_
   refine l_M (.bool (Yl l rs)) (Ar rfl rfl rfl (by rw [hM1]; simp)) rfl ?_
   refine Cn (Yl l rs) (fun b199=>?_) (fun b199=>?_)
   ·refine Aa (Ar rfl rfl rfl b199) (Ah (v:=(.bool (Yl l (rs ++ [x])))) rfl) ?_
    refine Aa (Ar rfl rfl rfl b199) (Ix (k:=Yl l (rs ++ [x])) rfl) ?_
    refine l_M (.bool (!(Yl l (rs ++ [x])))) (Ar rfl rfl rfl b199) rfl ?_
    refine l_M (iV (Xx l (rs ++ [x]))) (Ar rfl rfl rfl (not_t (hM3 b199).1)) rfl ?_
    refine l_M (iV (Xx l rs)) (Ar rfl rfl rfl (not_t (hM3 b199).1)) rfl ?_
    refine Aa (Ar rfl rfl rfl (not_t (hM3 b199).1)) (Gk (p:=Xx l (rs ++ [x])) (q:=Xx l rs) rfl rfl) ?_
    refine Aa (Ar rfl rfl rfl b199) (Bm rfl (not_t (hM3 b199).1) (v:=(.bool (decide (Xx l (rs ++ [x]) > Xx l rs)))) rfl) ?_
    refine Aa (Ar rfl rfl rfl (by rw [hM1]; simp)) (Bt rfl b199 (v:=(.bool (decide (Xx l (rs ++ [x]) > Xx l rs)))) rfl) ?_
    refine Aa rfl (Bm rfl (by rw [hM1]; simp) (v:=(.bool (decide (Xx l (rs ++ [x]) > Xx l rs)))) rfl) ?_
    apply Ac
    apply k196
    refine Cg rfl (decide_eq_false (by have:=(hM3 b199).2; omega)) ?_
    refine Al ?_
    apply k195
    refine Ai fun K200 k200=>?_
    refine w_q rfl rfl fun K201 k201=>?_
    refine l_A (iV (0)) rfl rfl ?_
    apply Ac
    apply k201
    refine Ao ?_
    refine Cc (fun mm ee dd ρ' σ'=>∃ (k:Nat),((Sk l rs).length - k) = mm∧[] = dd∧ρ194 = ρ'∧σ = σ'∧ee 9 = v18_0∧ee 24 = v191_0∧ee 28 = (iV ((k:Int)))∧(k ≤ (Sk l rs).length)∧True) (m:=_) ⟨0,rfl,rfl,rfl,rfl,rfl,rfl,rfl,(Nat.zero_le _),trivial⟩ ?_
    rintro m202 e202 _ _ _ ⟨k,rfl,rfl,rfl,rfl,h202_9,h202_24,h202_28,p202_0,_⟩
    refine Ai fun K203 k203=>?_
    refine w_q rfl rfl fun K204 k204=>?_
    refine Aa rfl (Ah (v:=(iV ((k:Int)))) h202_28) ?_
    refine Aa rfl (Ah (v:=v18_0) h202_9) ?_
    have g205:=Val.len r18_0
    refine Aa rfl (Ce (el:=53) Tryd.underlying46 rfl r18_0) ?_
    refine Aa rfl (Da (p:=(k:Int)) (q:=(((Sk l rs).length:Nat):Int)) rfl rfl) ?_
    apply Ac
    apply k204
    refine As (t:=decide ((k:Int) < (((Sk l rs).length:Nat):Int))) rfl (fun b206=>?_) (fun b206=>?_)
    ·have q206:=of_decide_eq_true b206
     refine Al ?_
     apply k203
     refine Ai fun K207 k207=>?_
     refine Ao ?_
     refine Ai fun K208 k208=>?_
     refine Dc [0,1,2,3,4,5,6,7,8,9,10,11,12,13,14,15] (by kernel_rfl) rfl rfl ?_
     refine Be (i:=0) Apx rfl (by kernel_rfl) rfl Ary rfl (Ah (v:=v18_0) h202_9) ?_
     refine Bg (i:=1) Arn rfl (by kernel_rfl) rfl Ary rfl (Ah (v:=(iV ((k:Int)))) h202_28) ?_
     obtain ⟨a210,ha210⟩:=Ed (xs:=Sk l rs) (i:=k) (by omega)
     refine Hl (i:=2) Aqz rfl (by kernel_rfl) rfl Ary rfl (Ci k Tryd.underlying46 Ov rfl r18_0 (q:=(k:Int)) rfl rfl ha210) fun v209 r209=>?_
     have ⟨g211a,g211b⟩:=At.rng r209
     refine Bg (i:=3) Arc rfl (by kernel_rfl) rfl Ary rfl (Bc Ov rfl r209) ?_
     refine Bg (i:=4) Ark rfl (by kernel_rfl) rfl Ary rfl (Dg (p:=a210) (q:=0) rfl rfl) ?_
     refine Bg (i:=5) Aqg rfl (by kernel_rfl) rfl Ary rfl (Ah (v:=(.bool (a210 != 0))) rfl) ?_
     refine Akl (a210 != 0) (fun b212=>?_) (fun b212=>?_)
     ·have q212:=Mb b212
      refine Be (i:=6) Aqb rfl (by kernel_rfl) rfl Ary (Ar rfl rfl rfl b212) (Ah (v:=v191_0) h202_24) ?_
      refine Be (i:=7) Aoa rfl (by kernel_rfl) rfl Ary (Ar rfl rfl rfl b212) (Ah (v:=(iV ((k:Int)))) h202_28) ?_
      obtain ⟨a214,ha214⟩:=Ed (xs:=Sk l (rs ++ [x])) (i:=k) (by omega)
      refine Cd (i:=8) Amy rfl (by kernel_rfl) rfl Ary (Ar rfl rfl rfl b212) (Ci k Tryd.underlying46 Ov rfl r191_0 (q:=(k:Int)) rfl rfl ha214) fun v213 r213=>?_
      have ⟨g215a,g215b⟩:=At.rng r213
      refine Be (i:=9) Anr rfl (by kernel_rfl) rfl Ary (Ar rfl rfl rfl b212) (Bc Ov rfl r213) ?_
      refine Be (i:=10) [o1,o1,o1,o1,o1,o1,o1,o1,o1,o1,o1,o0,o0,o0,o0,o0] rfl (by kernel_rfl) rfl Ary (Ar rfl rfl rfl b212) (Ah (v:=v18_0) h202_9) ?_
      refine Bg (i:=11) [o1,o1,o1,o1,o1,o1,o1,o1,o1,o1,o1,o1,o0,o0,o0,o0] rfl (by kernel_rfl) rfl Ary (Ar rfl rfl rfl b212) (Ah (v:=(iV ((k:Int)))) h202_28) ?_
      refine Hl (i:=12) Ans rfl (by kernel_rfl) rfl Ary (Ar rfl rfl rfl b212) (Ci k Tryd.underlying46 Ov rfl r18_0 (q:=(k:Int)) rfl rfl ha210) fun v216 r216=>?_
      have ⟨g217a,g217b⟩:=At.rng r216
      refine Bg (i:=13) Apc rfl (by kernel_rfl) rfl Ary (Ar rfl rfl rfl b212) (Bc Ov rfl r216) ?_
      refine Bg (i:=14) Amv rfl (by kernel_rfl) rfl Ary (Ar rfl rfl rfl b212) (Dg (p:=a214) (q:=a210) rfl rfl) ?_
      refine Bg (i:=15) Apa rfl (by kernel_rfl) rfl Ary rfl (Bt rfl b212 (v:=(.bool (a214 != a210))) rfl) ?_
      refine Ec rfl ?_
      apply k208
      refine As (t:=a214 != a210) rfl (fun b218=>?_) (fun b218=>?_)
      ·have q218:=Mb b218
       refine w_q rfl rfl fun K219 k219=>?_
       refine l_A (.bool (false)) rfl rfl ?_
       apply Ac
       apply k219
       refine Aj (Arw (Arz (Arz (Arz (Arz (Arz (Arz (Arz (Arz (Arz (Arz l2 l3) l18) l21) l43) l44) l47) l182) l186) l191) l194)) ?_
       refine Aq ?_
       refine hret _ _ _ ?_
       refine ⟨rfl,rfl,Eq.trans (b:=(.bool (false))) rfl ?_⟩
       exfalso; exact absurd (hM2 _ _ _ ha210 ha214 (by omega)) (by omega)
      have q218:=Jh b218
      refine Al ?_
      apply k207
      refine Ag rfl rfl ?_
      refine Aa rfl (Ah (v:=(iV ((k:Int)))) h202_28) ?_
      refine Aa rfl (Br (p:=(k:Int)) (q:=1) rfl rfl (z:=(((k + 1):Nat):Int)) (Bo (by first | rfl | omega | (push_cast; rfl)) (by omega) (by omega))) ?_
      refine l_A (iV ((((k + 1):Nat):Int))) rfl rfl ?_
      apply Ac
      refine ⟨_,?_,((k + 1)),rfl,rfl,rfl,rfl,h202_9,h202_24,rfl,(by omega),trivial⟩
      omega
     have q212:=Jh b212
     refine Ua (i:=6) Aqb rfl (by kernel_rfl) rfl Ary (Bl rfl rfl rfl b212) ?_
     refine Ua (i:=7) Aoa rfl (by kernel_rfl) rfl Ary (Bl rfl rfl rfl b212) ?_
     refine Ua (i:=8) Amy rfl (by kernel_rfl) rfl Ary (Bl rfl rfl rfl b212) ?_
     refine Ua (i:=9) Anr rfl (by kernel_rfl) rfl Ary (Bl rfl rfl rfl b212) ?_
     refine Ua (i:=10) [o1,o1,o1,o1,o1,o1,o1,o1,o1,o1,o1,o0,o0,o0,o0,o0] rfl (by kernel_rfl) rfl Ary (Bl rfl rfl rfl b212) ?_
     refine Xl (i:=11) [o1,o1,o1,o1,o1,o1,o1,o1,o1,o1,o1,o1,o0,o0,o0,o0] rfl (by kernel_rfl) rfl Ary (Bl rfl rfl rfl b212) ?_
     refine Xl (i:=12) Ans rfl (by kernel_rfl) rfl Ary (Bl rfl rfl rfl b212) ?_
     refine Xl (i:=13) Apc rfl (by kernel_rfl) rfl Ary (Bl rfl rfl rfl b212) ?_
     refine Xl (i:=14) Amv rfl (by kernel_rfl) rfl Ary (Bl rfl rfl rfl b212) ?_
     refine Bg (i:=15) Apa rfl (by kernel_rfl) rfl Ary rfl (Bm rfl b212 (v:=(.bool (false))) rfl) ?_
     refine Ec rfl ?_
     apply k208
     refine Cg rfl rfl ?_
     refine Al ?_
     apply k207
     refine Ag rfl rfl ?_
     refine Aa rfl (Ah (v:=(iV ((k:Int)))) h202_28) ?_
     refine Aa rfl (Br (p:=(k:Int)) (q:=1) rfl rfl (z:=(((k + 1):Nat):Int)) (Bo (by first | rfl | omega | (push_cast; rfl)) (by omega) (by omega))) ?_
     refine l_A (iV ((((k + 1):Nat):Int))) rfl rfl ?_
     apply Ac
     refine ⟨_,?_,((k + 1)),rfl,rfl,rfl,rfl,h202_9,h202_24,rfl,(by omega),trivial⟩
     omega
    have q206:=of_decide_eq_false b206
    refine Bx ?_
    apply k200
    refine w_q rfl rfl fun K220 k220=>?_
    refine Ae rfl (Bn (vs:=[]) (v:=(.bool (true))) (c_tells hg hnr) Tryd.func17 rfl rfl trivial ?_)
    refine l_A (.bool (true)) rfl rfl ?_
    apply Ac
    apply k220
    refine Aj (Arw (Arz (Arz (Arz (Arz (Arz (Arz (Arz (Arz (Arz (Arz l2 l3) l18) l21) l43) l44) l47) l182) l186) l191) l194)) ?_
    refine Aq ?_
    refine hret _ _ _ ?_
    refine ⟨rfl,rfl,Eq.trans (b:=(.bool (true))) rfl ?_⟩
    rfl
   refine Ap (Bl rfl rfl rfl b199) ?_
   refine Ap (Bl rfl rfl rfl b199) ?_
   refine Ap (Bl rfl rfl rfl b199) ?_
   refine Ap (Jf rfl rfl rfl) ?_
   refine Ap (Jf rfl rfl rfl) ?_
   refine Ap (Jf rfl rfl rfl) ?_
   refine Ap (Bl rfl rfl rfl b199) ?_
   refine Aa (Ar rfl rfl rfl (by rw [hM1]; simp)) (Bm rfl b199 (v:=(.bool (false))) rfl) ?_
   refine Aa rfl (Bm rfl (by rw [hM1]; simp) (v:=(.bool (false))) rfl) ?_
   apply Ac
   apply k196
   refine Cg rfl rfl ?_
   refine Al ?_
   apply k195
   refine Ai fun K221 k221=>?_
   refine w_q rfl rfl fun K222 k222=>?_
   refine l_A (iV (0)) rfl rfl ?_
   apply Ac
   apply k222
   refine Ao ?_
   refine Cc (fun mm ee dd ρ' σ'=>∃ (k:Nat),((Sk l rs).length - k) = mm∧[] = dd∧ρ194 = ρ'∧σ = σ'∧ee 9 = v18_0∧ee 24 = v191_0∧ee 28 = (iV ((k:Int)))∧(k ≤ (Sk l rs).length)∧True) (m:=_) ⟨0,rfl,rfl,rfl,rfl,rfl,rfl,rfl,(Nat.zero_le _),trivial⟩ ?_
   rintro m223 e223 _ _ _ ⟨k,rfl,rfl,rfl,rfl,h223_9,h223_24,h223_28,p223_0,_⟩
   refine Ai fun K224 k224=>?_
   refine w_q rfl rfl fun K225 k225=>?_
   refine Aa rfl (Ah (v:=(iV ((k:Int)))) h223_28) ?_
   refine Aa rfl (Ah (v:=v18_0) h223_9) ?_
   have g226:=Val.len r18_0
   refine Aa rfl (Ce (el:=53) Tryd.underlying46 rfl r18_0) ?_
   refine Aa rfl (Da (p:=(k:Int)) (q:=(((Sk l rs).length:Nat):Int)) rfl rfl) ?_
   apply Ac
   apply k225
   refine As (t:=decide ((k:Int) < (((Sk l rs).length:Nat):Int))) rfl (fun b227=>?_) (fun b227=>?_)
   ·have q227:=of_decide_eq_true b227
    refine Al ?_
    apply k224
    refine Ai fun K228 k228=>?_
    refine Ao ?_
    refine Ai fun K229 k229=>?_
    refine Dc [0,1,2,3,4,5,6,7,8,9,10,11,12,13,14,15] (by kernel_rfl) rfl rfl ?_
    refine Be (i:=0) Apx rfl (by kernel_rfl) rfl Ary rfl (Ah (v:=v18_0) h223_9) ?_
    refine Bg (i:=1) Arn rfl (by kernel_rfl) rfl Ary rfl (Ah (v:=(iV ((k:Int)))) h223_28) ?_
    obtain ⟨a231,ha231⟩:=Ed (xs:=Sk l rs) (i:=k) (by omega)
    refine Hl (i:=2) Aqz rfl (by kernel_rfl) rfl Ary rfl (Ci k Tryd.underlying46 Ov rfl r18_0 (q:=(k:Int)) rfl rfl ha231) fun v230 r230=>?_
    have ⟨g232a,g232b⟩:=At.rng r230
    refine Bg (i:=3) Arc rfl (by kernel_rfl) rfl Ary rfl (Bc Ov rfl r230) ?_
    refine Bg (i:=4) Ark rfl (by kernel_rfl) rfl Ary rfl (Dg (p:=a231) (q:=0) rfl rfl) ?_
    refine Bg (i:=5) Aqg rfl (by kernel_rfl) rfl Ary rfl (Ah (v:=(.bool (a231 != 0))) rfl) ?_
    refine Akl (a231 != 0) (fun b233=>?_) (fun b233=>?_)
    ·have q233:=Mb b233
     refine Be (i:=6) Aqb rfl (by kernel_rfl) rfl Ary (Ar rfl rfl rfl b233) (Ah (v:=v191_0) h223_24) ?_
     refine Be (i:=7) Aoa rfl (by kernel_rfl) rfl Ary (Ar rfl rfl rfl b233) (Ah (v:=(iV ((k:Int)))) h223_28) ?_
     obtain ⟨a235,ha235⟩:=Ed (xs:=Sk l (rs ++ [x])) (i:=k) (by omega)
     refine Cd (i:=8) Amy rfl (by kernel_rfl) rfl Ary (Ar rfl rfl rfl b233) (Ci k Tryd.underlying46 Ov rfl r191_0 (q:=(k:Int)) rfl rfl ha235) fun v234 r234=>?_
     have ⟨g236a,g236b⟩:=At.rng r234
     refine Be (i:=9) Anr rfl (by kernel_rfl) rfl Ary (Ar rfl rfl rfl b233) (Bc Ov rfl r234) ?_
     refine Be (i:=10) [o1,o1,o1,o1,o1,o1,o1,o1,o1,o1,o1,o0,o0,o0,o0,o0] rfl (by kernel_rfl) rfl Ary (Ar rfl rfl rfl b233) (Ah (v:=v18_0) h223_9) ?_
     refine Bg (i:=11) [o1,o1,o1,o1,o1,o1,o1,o1,o1,o1,o1,o1,o0,o0,o0,o0] rfl (by kernel_rfl) rfl Ary (Ar rfl rfl rfl b233) (Ah (v:=(iV ((k:Int)))) h223_28) ?_
     refine Hl (i:=12) Ans rfl (by kernel_rfl) rfl Ary (Ar rfl rfl rfl b233) (Ci k Tryd.underlying46 Ov rfl r18_0 (q:=(k:Int)) rfl rfl ha231) fun v237 r237=>?_
     have ⟨g238a,g238b⟩:=At.rng r237
     refine Bg (i:=13) Apc rfl (by kernel_rfl) rfl Ary (Ar rfl rfl rfl b233) (Bc Ov rfl r237) ?_
     refine Bg (i:=14) Amv rfl (by kernel_rfl) rfl Ary (Ar rfl rfl rfl b233) (Dg (p:=a235) (q:=a231) rfl rfl) ?_
     refine Bg (i:=15) Apa rfl (by kernel_rfl) rfl Ary rfl (Bt rfl b233 (v:=(.bool (a235 != a231))) rfl) ?_
     refine Ec rfl ?_
     apply k229
     refine As (t:=a235 != a231) rfl (fun b239=>?_) (fun b239=>?_)
     ·have q239:=Mb b239
      refine w_q rfl rfl fun K240 k240=>?_
      refine l_A (.bool (false)) rfl rfl ?_
      apply Ac
      apply k240
      refine Aj (Arw (Arz (Arz (Arz (Arz (Arz (Arz (Arz (Arz (Arz (Arz l2 l3) l18) l21) l43) l44) l47) l182) l186) l191) l194)) ?_
      refine Aq ?_
      refine hret _ _ _ ?_
      refine ⟨rfl,rfl,Eq.trans (b:=(.bool (false))) rfl ?_⟩
      exfalso; exact absurd (hM2 _ _ _ ha231 ha235 (by omega)) (by omega)
     have q239:=Jh b239
     refine Al ?_
     apply k228
     refine Ag rfl rfl ?_
     refine Aa rfl (Ah (v:=(iV ((k:Int)))) h223_28) ?_
     refine Aa rfl (Br (p:=(k:Int)) (q:=1) rfl rfl (z:=(((k + 1):Nat):Int)) (Bo (by first | rfl | omega | (push_cast; rfl)) (by omega) (by omega))) ?_
     refine l_A (iV ((((k + 1):Nat):Int))) rfl rfl ?_
     apply Ac
     refine ⟨_,?_,((k + 1)),rfl,rfl,rfl,rfl,h223_9,h223_24,rfl,(by omega),trivial⟩
     omega
    have q233:=Jh b233
    refine Ua (i:=6) Aqb rfl (by kernel_rfl) rfl Ary (Bl rfl rfl rfl b233) ?_
    refine Ua (i:=7) Aoa rfl (by kernel_rfl) rfl Ary (Bl rfl rfl rfl b233) ?_
    refine Ua (i:=8) Amy rfl (by kernel_rfl) rfl Ary (Bl rfl rfl rfl b233) ?_
    refine Ua (i:=9) Anr rfl (by kernel_rfl) rfl Ary (Bl rfl rfl rfl b233) ?_
    refine Ua (i:=10) [o1,o1,o1,o1,o1,o1,o1,o1,o1,o1,o1,o0,o0,o0,o0,o0] rfl (by kernel_rfl) rfl Ary (Bl rfl rfl rfl b233) ?_
    refine Xl (i:=11) [o1,o1,o1,o1,o1,o1,o1,o1,o1,o1,o1,o1,o0,o0,o0,o0] rfl (by kernel_rfl) rfl Ary (Bl rfl rfl rfl b233) ?_
    refine Xl (i:=12) Ans rfl (by kernel_rfl) rfl Ary (Bl rfl rfl rfl b233) ?_
    refine Xl (i:=13) Apc rfl (by kernel_rfl) rfl Ary (Bl rfl rfl rfl b233) ?_
    refine Xl (i:=14) Amv rfl (by kernel_rfl) rfl Ary (Bl rfl rfl rfl b233) ?_
    refine Bg (i:=15) Apa rfl (by kernel_rfl) rfl Ary rfl (Bm rfl b233 (v:=(.bool (false))) rfl) ?_
    refine Ec rfl ?_
    apply k229
    refine Cg rfl rfl ?_
    refine Al ?_
    apply k228
    refine Ag rfl rfl ?_
    refine Aa rfl (Ah (v:=(iV ((k:Int)))) h223_28) ?_
    refine Aa rfl (Br (p:=(k:Int)) (q:=1) rfl rfl (z:=(((k + 1):Nat):Int)) (Bo (by first | rfl | omega | (push_cast; rfl)) (by omega) (by omega))) ?_
    refine l_A (iV ((((k + 1):Nat):Int))) rfl rfl ?_
    apply Ac
    refine ⟨_,?_,((k + 1)),rfl,rfl,rfl,rfl,h223_9,h223_24,rfl,(by omega),trivial⟩
    omega
   have q227:=of_decide_eq_false b227
   refine Bx ?_
   apply k221
   refine w_q rfl rfl fun K241 k241=>?_
   refine Ae rfl (Bn (vs:=[]) (v:=(.bool (true))) (c_tells hg hnr) Tryd.func17 rfl rfl trivial ?_)
   refine l_A (.bool (true)) rfl rfl ?_
   apply Ac
   apply k241
   refine Aj (Arw (Arz (Arz (Arz (Arz (Arz (Arz (Arz (Arz (Arz (Arz l2 l3) l18) l21) l43) l44) l47) l182) l186) l191) l194)) ?_
   refine Aq ?_
   refine hret _ _ _ ?_
   refine ⟨rfl,rfl,Eq.trans (b:=(.bool (true))) rfl ?_⟩
   rfl
 have q31:=of_decide_eq_false b31
 refine Al ?_
 apply k28
 refine Ai fun K242 k242=>?_
 refine Dc [0,1,2,3,4,5,6] (by kernel_rfl) rfl rfl ?_
 refine Be (i:=1) [o0,o1,o0,o0,o0,o0,o0] rfl (by kernel_rfl) rfl Ary rfl (Ah (v:=vr) rfl) ?_
 refine Cd (i:=3) [o0,o1,o0,o1,o0,o0,o0] rfl (by kernel_rfl) rfl Ary rfl (Ax Aax rfl r3) fun v243 r243=>?_
 refine Acr (i:=0) (j:=4) [o1,o1,o0,o1,o0,o0,o0] [o0,o1,o0,o1,o1,o0,o0] rfl rfl (by kernel_rfl) rfl rfl rfl rfl ?_ ?_
 ·refine Bi (α:=Found) (xs:=[]) (vs:=[]) Tryd.underlying41 Aax Ahd rfl (by decide) rfl trivial rfl (by decide) fun k244 cs244 R244=>⟨Ary,?_⟩
  have G244:Grow ρ21 43 (.slice (some ⟨k244,0,none⟩) 0 0) ([]:List Found) [(k244,Res.obj (.cells cs244.toArray 43 (0,0)))]:=Bs R244 rfl (by decide)
  refine Acr (i:=2) (j:=4) Aph [o1,o1,o0,o1,o1,o0,o0] rfl rfl (by kernel_rfl) rfl rfl rfl rfl ?_ ?_
  ·refine Fx (σ:=σ) (gr:=[(k244,Res.obj (.cells cs244.toArray 43 (0,0)))]) (xs:=([]:List Found)) (ys:=rs) Tryd.underlying41 Tryd.underlying41 (Ab Tryd.typeInfo43) rfl (Nat.le_of_ble_eq_true rfl) rfl rfl rfl rfl G244 rr (by simp only [List.length_append,List.length_take,List.length_drop,List.length_cons,List.length_nil] at *; omega) fun v245 gr245 G245=>⟨Ary,?_⟩
   refine Dj (i:=4) Aog rfl (by kernel_rfl) rfl rfl (Bi (α:=Found) (xs:=[x]) (vs:=[v243]) Tryd.underlying41 Aax Ahd rfl (by decide) (Dl (os:=[.tmp 127]) ⟨rfl,trivial⟩) ⟨r243,trivial⟩ rfl (by decide) fun k246 cs246 R246=>⟨Ary,?_⟩)
   have G246:Grow ρ21 43 (.slice (some ⟨k246,0,none⟩) 1 1) ([x]:List Found) [(k246,Res.obj (.cells cs246.toArray 43 (0,0)))]:=Bs R246 rfl (by decide)
   refine Ls G246 fun ρ248 l248 r248=>?_
   replace rr:=Asa l248 rr
   replace hg:=Glob.mono l248 hg
   replace r2:=Arv l248 r2
   replace r3:=Arv l248 r3
   replace r18_0:=Asa l248 r18_0
   replace r243:=Asa l248 r243
   replace G245:=Grow.mono l248 G245
   refine Dj (i:=5) Aoi rfl (by kernel_rfl) rfl rfl (Fx (σ:=σ) (gr:=gr245) (xs:=(([]:List Found) ++ rs)) (ys:=([x]:List Found)) Tryd.underlying41 Tryd.underlying41 (Ab Tryd.typeInfo43) rfl (Nat.le_of_ble_eq_true rfl) rfl rfl rfl rfl G245 r248 (by simp only [List.length_append,List.length_take,List.length_drop,List.length_cons,List.length_nil] at *; omega) fun v247 gr247 G247=>⟨l248,?_⟩)
   refine Bg (i:=6) Amx rfl (by kernel_rfl) rfl l248 rfl (Cp (v:=v247) rfl) ?_
   refine Ec rfl ?_
   apply k242
   refine Ai fun K249 k249=>?_
   refine w_q rfl rfl fun K250 k250=>?_
   refine Ak rfl (Ax Aaj rfl r2) fun v251 r251=>?_
   refine l_M v247 rfl rfl ?_
   refine Ca G247 fun ρ252 l252 r252=>?_
   replace hg:=Glob.mono l252 hg
   replace r2:=Arv l252 r2
   replace r18_0:=Asa l252 r18_0
   replace r251:=Asa l252 r251
   refine Ae rfl (Bn (vs:=[v251,v247]) (v:=(iV (Cw l (((([]:List Found) ++ rs) ++ ([x]:List Found)))))) (c_refCheckResults r251 r252) Tryd.func24 rfl rfl ⟨rfl,rfl,trivial⟩ ?_)
   refine Aa rfl (Dg (p:=Cw l (((([]:List Found) ++ rs) ++ ([x]:List Found)))) (q:=0) rfl rfl) ?_
   apply Ac
   apply k250
   refine As (t:=Cw l (((([]:List Found) ++ rs) ++ ([x]:List Found))) != 0) rfl (fun b253=>?_) (fun b253=>?_)
   ·have q253:=Mb b253
    refine w_q rfl rfl fun K254 k254=>?_
    refine Ae rfl (Bn (vs:=[]) (v:=(.bool (true))) (c_tells hg hnr) Tryd.func17 rfl rfl trivial ?_)
    refine l_A (.bool (true)) rfl rfl ?_
    apply Ac
    apply k254
    refine Aj (Arw (Arz (Arz (Arz (Arz (Arz l2 l3) l18) l21) l248) l252)) ?_
    refine Aq ?_
    refine hret _ _ _ ?_
    refine ⟨rfl,rfl,Eq.trans (b:=(.bool (true))) rfl ?_⟩
    rfl
   have hc2:Cw l (rs ++ [x]) = 0:=Jh b253
   obtain ⟨hM1,hM2,hM3⟩:=more_res hc0 hc2
   have q253:=Jh b253
   refine Al ?_
   apply k249
   refine w_q rfl rfl fun K255 k255=>?_
   refine Ak rfl (Ax Aaj rfl r2) fun v256 r256=>?_
   refine l_M v247 rfl rfl ?_
   refine Ae rfl (Cm (vs:=[v256,v247]) (c_BeliefsZ (rs:=(rs ++ [x])) hc2 rfl hg r256 r252) Tryd.func25 rfl rfl ⟨rfl,rfl,trivial⟩ fun w257 ρ257 σ257 hc257=>?_)
   obtain ⟨l257,s257,v257_0,w257e,r257_0⟩:=hc257
   replace s257:=s257.symm; subst s257 w257e
   replace hg:=Glob.mono l257 hg
   replace r2:=Arv l257 r2
   replace r18_0:=Asa l257 r18_0
   replace r252:=Asa l257 r252
   replace r256:=Asa l257 r256
   refine l_M (.tuple #[v257_0,(iV (0))]) rfl rfl ?_
   refine Aa rfl (Bk (vs:=#[v257_0,(iV (0))]) rfl (v:=v257_0) rfl) ?_
   refine Aa rfl (Bk (vs:=#[v257_0,(iV (0))]) rfl (v:=(iV (0))) rfl) ?_
   refine l_A v257_0 rfl rfl ?_
   refine l_A (iV (0)) rfl rfl ?_
   apply Ac
   apply k255
   refine w_q rfl rfl fun K258 k258=>?_
   refine Ak rfl (Ax Aaj rfl r2) fun v259 r259=>?_
   refine l_M v247 rfl rfl ?_
   refine Ae rfl (Cm (vs:=[v259,v247]) (c_TreeZ (rs:=(rs ++ [x])) hc2 rfl rfl hg r259 r252) Tryd.func26 rfl rfl ⟨rfl,rfl,trivial⟩ fun w260 ρ260 σ260 hc260=>?_)
   obtain ⟨l260,s260,v260_0,w260e,r260_0⟩:=hc260
   replace s260:=s260.symm; subst s260 w260e
   replace hg:=Glob.mono l260 hg
   replace r2:=Arv l260 r2
   replace r18_0:=Asa l260 r18_0
   replace r252:=Asa l260 r252
   replace r257_0:=Asa l260 r257_0
   replace r259:=Asa l260 r259
   refine l_M (.tuple #[v260_0,(iV (Xx l (rs ++ [x]))),(.bool (Yl l (rs ++ [x]))),(iV (0))]) rfl rfl ?_
   refine Aa rfl (Bk (vs:=#[v260_0,(iV (Xx l (rs ++ [x]))),(.bool (Yl l (rs ++ [x]))),(iV (0))]) rfl (v:=v260_0) rfl) ?_
   refine Aa rfl (Bk (vs:=#[v260_0,(iV (Xx l (rs ++ [x]))),(.bool (Yl l (rs ++ [x]))),(iV (0))]) rfl (v:=(iV (Xx l (rs ++ [x])))) rfl) ?_
   refine Aa rfl (Bk (vs:=#[v260_0,(iV (Xx l (rs ++ [x]))),(.bool (Yl l (rs ++ [x]))),(iV (0))]) rfl (v:=(.bool (Yl l (rs ++ [x])))) rfl) ?_
   refine Aa rfl (Bk (vs:=#[v260_0,(iV (Xx l (rs ++ [x]))),(.bool (Yl l (rs ++ [x]))),(iV (0))]) rfl (v:=(iV (0))) rfl) ?_
   refine l_A v260_0 rfl rfl ?_
   refine l_A (iV (Xx l (rs ++ [x]))) rfl rfl ?_
   refine l_A (.bool (Yl l (rs ++ [x]))) rfl rfl ?_
   refine l_A (iV (0)) rfl rfl ?_
   apply Ac
   apply k258
   refine Ai fun K261 k261=>?_
   refine w_q rfl rfl fun K262 k262=>?_
   refine l_M (iV (0)) rfl rfl ?_
   refine Aa rfl (Dg (p:=0) (q:=0) rfl rfl) ?_
   refine l_M (.bool (false)) rfl rfl ?_
   refine l_M (iV (0)) (Ar rfl rfl rfl rfl) rfl ?_
   refine Aa (Ar rfl rfl rfl rfl) (Dg (p:=0) (q:=0) rfl rfl) ?_
   refine Aa rfl (Bm rfl rfl (v:=(.bool (false))) rfl) ?_
   refine l_M (.bool (false)) rfl rfl ?_
   refine l_M v257_0 (Ar rfl rfl rfl rfl) rfl ?_
   have g263:=Val.len r257_0
   refine Aa (Ar rfl rfl rfl rfl) (Ce (el:=53) Tryd.underlying46 rfl r257_0) ?_
   refine l_M v18_0 (Ar rfl rfl rfl rfl) rfl ?_
   have g264:=Val.len r18_0
   refine Aa (Ar rfl rfl rfl rfl) (Ce (el:=53) Tryd.underlying46 rfl r18_0) ?_
   refine Aa (Ar rfl rfl rfl rfl) (Dg (p:=(((Sk l (rs ++ [x])).length:Nat):Int)) (q:=(((Sk l rs).length:Nat):Int)) rfl rfl) ?_
   refine Aa rfl (Bm rfl rfl (v:=(.bool ((((Sk l (rs ++ [x])).length:Nat):Int) != (((Sk l rs).length:Nat):Int)))) rfl) ?_
   refine l_M (.bool ((((Sk l (rs ++ [x])).length:Nat):Int) != (((Sk l rs).length:Nat):Int))) rfl rfl ?_
   refine l_M (.bool (Yl l rs)) (Ar rfl rfl rfl (by rw [hM1]; simp)) rfl ?_
   refine l_M (.bool (Yl l rs)) (Ar rfl rfl rfl (by rw [hM1]; simp)) rfl ?_
   refine Cn (Yl l rs) (fun b265=>?_) (fun b265=>?_)
   ·refine Aa (Ar rfl rfl rfl b265) (Ah (v:=(.bool (Yl l (rs ++ [x])))) rfl) ?_
    refine Aa (Ar rfl rfl rfl b265) (Ix (k:=Yl l (rs ++ [x])) rfl) ?_
    refine l_M (.bool (!(Yl l (rs ++ [x])))) (Ar rfl rfl rfl b265) rfl ?_
    refine l_M (iV (Xx l (rs ++ [x]))) (Ar rfl rfl rfl (not_t (hM3 b265).1)) rfl ?_
    refine l_M (iV (Xx l rs)) (Ar rfl rfl rfl (not_t (hM3 b265).1)) rfl ?_
    refine Aa (Ar rfl rfl rfl (not_t (hM3 b265).1)) (Gk (p:=Xx l (rs ++ [x])) (q:=Xx l rs) rfl rfl) ?_
    refine Aa (Ar rfl rfl rfl b265) (Bm rfl (not_t (hM3 b265).1) (v:=(.bool (decide (Xx l (rs ++ [x]) > Xx l rs)))) rfl) ?_
    refine Aa (Ar rfl rfl rfl (by rw [hM1]; simp)) (Bt rfl b265 (v:=(.bool (decide (Xx l (rs ++ [x]) > Xx l rs)))) rfl) ?_
    refine Aa rfl (Bm rfl (by rw [hM1]; simp) (v:=(.bool (decide (Xx l (rs ++ [x]) > Xx l rs)))) rfl) ?_
    apply Ac
    apply k262
    refine Cg rfl (decide_eq_false (by have:=(hM3 b265).2; omega)) ?_
    refine Al ?_
    apply k261
    refine Ai fun K266 k266=>?_
    refine w_q rfl rfl fun K267 k267=>?_
    refine l_A (iV (0)) rfl rfl ?_
    apply Ac
    apply k267
    refine Ao ?_
    refine Cc (fun mm ee dd ρ' σ'=>∃ (k:Nat),((Sk l rs).length - k) = mm∧[] = dd∧ρ260 = ρ'∧σ = σ'∧ee 9 = v18_0∧ee 24 = v257_0∧ee 28 = (iV ((k:Int)))∧(k ≤ (Sk l rs).length)∧True) (m:=_) ⟨0,rfl,rfl,rfl,rfl,rfl,rfl,rfl,(Nat.zero_le _),trivial⟩ ?_
    rintro m268 e268 _ _ _ ⟨k,rfl,rfl,rfl,rfl,h268_9,h268_24,h268_28,p268_0,_⟩
    refine Ai fun K269 k269=>?_
    refine w_q rfl rfl fun K270 k270=>?_
    refine Aa rfl (Ah (v:=(iV ((k:Int)))) h268_28) ?_
    refine Aa rfl (Ah (v:=v18_0) h268_9) ?_
    have g271:=Val.len r18_0
    refine Aa rfl (Ce (el:=53) Tryd.underlying46 rfl r18_0) ?_
    refine Aa rfl (Da (p:=(k:Int)) (q:=(((Sk l rs).length:Nat):Int)) rfl rfl) ?_
    apply Ac
    apply k270
    refine As (t:=decide ((k:Int) < (((Sk l rs).length:Nat):Int))) rfl (fun b272=>?_) (fun b272=>?_)
    ·have q272:=of_decide_eq_true b272
     refine Al ?_
     apply k269
     refine Ai fun K273 k273=>?_
     refine Ao ?_
     refine Ai fun K274 k274=>?_
     refine Dc [0,1,2,3,4,5,6,7,8,9,10,11,12,13,14,15] (by kernel_rfl) rfl rfl ?_
     refine Be (i:=0) Apx rfl (by kernel_rfl) rfl Ary rfl (Ah (v:=v18_0) h268_9) ?_
     refine Bg (i:=1) Arn rfl (by kernel_rfl) rfl Ary rfl (Ah (v:=(iV ((k:Int)))) h268_28) ?_
     obtain ⟨a276,ha276⟩:=Ed (xs:=Sk l rs) (i:=k) (by omega)
     refine Hl (i:=2) Aqz rfl (by kernel_rfl) rfl Ary rfl (Ci k Tryd.underlying46 Ov rfl r18_0 (q:=(k:Int)) rfl rfl ha276) fun v275 r275=>?_
     have ⟨g277a,g277b⟩:=At.rng r275
     refine Bg (i:=3) Arc rfl (by kernel_rfl) rfl Ary rfl (Bc Ov rfl r275) ?_
     refine Bg (i:=4) Ark rfl (by kernel_rfl) rfl Ary rfl (Dg (p:=a276) (q:=0) rfl rfl) ?_
     refine Bg (i:=5) Aqg rfl (by kernel_rfl) rfl Ary rfl (Ah (v:=(.bool (a276 != 0))) rfl) ?_
     refine Akl (a276 != 0) (fun b278=>?_) (fun b278=>?_)
     ·have q278:=Mb b278
      refine Be (i:=6) Aqb rfl (by kernel_rfl) rfl Ary (Ar rfl rfl rfl b278) (Ah (v:=v257_0) h268_24) ?_
      refine Be (i:=7) Aoa rfl (by kernel_rfl) rfl Ary (Ar rfl rfl rfl b278) (Ah (v:=(iV ((k:Int)))) h268_28) ?_
      obtain ⟨a280,ha280⟩:=Ed (xs:=Sk l (rs ++ [x])) (i:=k) (by omega)
      refine Cd (i:=8) Amy rfl (by kernel_rfl) rfl Ary (Ar rfl rfl rfl b278) (Ci k Tryd.underlying46 Ov rfl r257_0 (q:=(k:Int)) rfl rfl ha280) fun v279 r279=>?_
      have ⟨g281a,g281b⟩:=At.rng r279
      refine Be (i:=9) Anr rfl (by kernel_rfl) rfl Ary (Ar rfl rfl rfl b278) (Bc Ov rfl r279) ?_
      refine Be (i:=10) [o1,o1,o1,o1,o1,o1,o1,o1,o1,o1,o1,o0,o0,o0,o0,o0] rfl (by kernel_rfl) rfl Ary (Ar rfl rfl rfl b278) (Ah (v:=v18_0) h268_9) ?_
      refine Bg (i:=11) [o1,o1,o1,o1,o1,o1,o1,o1,o1,o1,o1,o1,o0,o0,o0,o0] rfl (by kernel_rfl) rfl Ary (Ar rfl rfl rfl b278) (Ah (v:=(iV ((k:Int)))) h268_28) ?_
      refine Hl (i:=12) Ans rfl (by kernel_rfl) rfl Ary (Ar rfl rfl rfl b278) (Ci k Tryd.underlying46 Ov rfl r18_0 (q:=(k:Int)) rfl rfl ha276) fun v282 r282=>?_
      have ⟨g283a,g283b⟩:=At.rng r282
      refine Bg (i:=13) Apc rfl (by kernel_rfl) rfl Ary (Ar rfl rfl rfl b278) (Bc Ov rfl r282) ?_
      refine Bg (i:=14) Amv rfl (by kernel_rfl) rfl Ary (Ar rfl rfl rfl b278) (Dg (p:=a280) (q:=a276) rfl rfl) ?_
      refine Bg (i:=15) Apa rfl (by kernel_rfl) rfl Ary rfl (Bt rfl b278 (v:=(.bool (a280 != a276))) rfl) ?_
      refine Ec rfl ?_
      apply k274
      refine As (t:=a280 != a276) rfl (fun b284=>?_) (fun b284=>?_)
      ·have q284:=Mb b284
       refine w_q rfl rfl fun K285 k285=>?_
       refine l_A (.bool (false)) rfl rfl ?_
       apply Ac
       apply k285
       refine Aj (Arw (Arz (Arz (Arz (Arz (Arz (Arz (Arz l2 l3) l18) l21) l248) l252) l257) l260)) ?_
       refine Aq ?_
       refine hret _ _ _ ?_
       refine ⟨rfl,rfl,Eq.trans (b:=(.bool (false))) rfl ?_⟩
       exfalso; exact absurd (hM2 _ _ _ ha276 ha280 (by omega)) (by omega)
      have q284:=Jh b284
      refine Al ?_
      apply k273
      refine Ag rfl rfl ?_
      refine Aa rfl (Ah (v:=(iV ((k:Int)))) h268_28) ?_
      refine Aa rfl (Br (p:=(k:Int)) (q:=1) rfl rfl (z:=(((k + 1):Nat):Int)) (Bo (by first | rfl | omega | (push_cast; rfl)) (by omega) (by omega))) ?_
      refine l_A (iV ((((k + 1):Nat):Int))) rfl rfl ?_
      apply Ac
      refine ⟨_,?_,((k + 1)),rfl,rfl,rfl,rfl,h268_9,h268_24,rfl,(by omega),trivial⟩
      omega
     have q278:=Jh b278
     refine Ua (i:=6) Aqb rfl (by kernel_rfl) rfl Ary (Bl rfl rfl rfl b278) ?_
     refine Ua (i:=7) Aoa rfl (by kernel_rfl) rfl Ary (Bl rfl rfl rfl b278) ?_
     refine Ua (i:=8) Amy rfl (by kernel_rfl) rfl Ary (Bl rfl rfl rfl b278) ?_
     refine Ua (i:=9) Anr rfl (by kernel_rfl) rfl Ary (Bl rfl rfl rfl b278) ?_
     refine Ua (i:=10) [o1,o1,o1,o1,o1,o1,o1,o1,o1,o1,o1,o0,o0,o0,o0,o0] rfl (by kernel_rfl) rfl Ary (Bl rfl rfl rfl b278) ?_
     refine Xl (i:=11) [o1,o1,o1,o1,o1,o1,o1,o1,o1,o1,o1,o1,o0,o0,o0,o0] rfl (by kernel_rfl) rfl Ary (Bl rfl rfl rfl b278) ?_
     refine Xl (i:=12) Ans rfl (by kernel_rfl) rfl Ary (Bl rfl rfl rfl b278) ?_
     refine Xl (i:=13) Apc rfl (by kernel_rfl) rfl Ary (Bl rfl rfl rfl b278) ?_
     refine Xl (i:=14) Amv rfl (by kernel_rfl) rfl Ary (Bl rfl rfl rfl b278) ?_
     refine Bg (i:=15) Apa rfl (by kernel_rfl) rfl Ary rfl (Bm rfl b278 (v:=(.bool (false))) rfl) ?_
     refine Ec rfl ?_
     apply k274
     refine Cg rfl rfl ?_
     refine Al ?_
     apply k273
     refine Ag rfl rfl ?_
     refine Aa rfl (Ah (v:=(iV ((k:Int)))) h268_28) ?_
     refine Aa rfl (Br (p:=(k:Int)) (q:=1) rfl rfl (z:=(((k + 1):Nat):Int)) (Bo (by first | rfl | omega | (push_cast; rfl)) (by omega) (by omega))) ?_
     refine l_A (iV ((((k + 1):Nat):Int))) rfl rfl ?_
     apply Ac
     refine ⟨_,?_,((k + 1)),rfl,rfl,rfl,rfl,h268_9,h268_24,rfl,(by omega),trivial⟩
     omega
    have q272:=of_decide_eq_false b272
    refine Bx ?_
    apply k266
    refine w_q rfl rfl fun K286 k286=>?_
    refine Ae rfl (Bn (vs:=[]) (v:=(.bool (true))) (c_tells hg hnr) Tryd.func17 rfl rfl trivial ?_)
    refine l_A (.bool (true)) rfl rfl ?_
    apply Ac
    apply k286
    refine Aj (Arw (Arz (Arz (Arz (Arz (Arz (Arz (Arz l2 l3) l18) l21) l248) l252) l257) l260)) ?_
    refine Aq ?_
    refine hret _ _ _ ?_
    refine ⟨rfl,rfl,Eq.trans (b:=(.bool (true))) rfl ?_⟩
    rfl
   refine Ap (Bl rfl rfl rfl b265) ?_
   refine Ap (Bl rfl rfl rfl b265) ?_
   refine Ap (Bl rfl rfl rfl b265) ?_
   refine Ap (Jf rfl rfl rfl) ?_
   refine Ap (Jf rfl rfl rfl) ?_
   refine Ap (Jf rfl rfl rfl) ?_
   refine Ap (Bl rfl rfl rfl b265) ?_
   refine Aa (Ar rfl rfl rfl (by rw [hM1]; simp)) (Bm rfl b265 (v:=(.bool (false))) rfl) ?_
   refine Aa rfl (Bm rfl (by rw [hM1]; simp) (v:=(.bool (false))) rfl) ?_
   apply Ac
   apply k262
   refine Cg rfl rfl ?_
   refine Al ?_
   apply k261
   refine Ai fun K287 k287=>?_
   refine w_q rfl rfl fun K288 k288=>?_
   refine l_A (iV (0)) rfl rfl ?_
   apply Ac
   apply k288
   refine Ao ?_
   refine Cc (fun mm ee dd ρ' σ'=>∃ (k:Nat),((Sk l rs).length - k) = mm∧[] = dd∧ρ260 = ρ'∧σ = σ'∧ee 9 = v18_0∧ee 24 = v257_0∧ee 28 = (iV ((k:Int)))∧(k ≤ (Sk l rs).length)∧True) (m:=_) ⟨0,rfl,rfl,rfl,rfl,rfl,rfl,rfl,(Nat.zero_le _),trivial⟩ ?_
   rintro m289 e289 _ _ _ ⟨k,rfl,rfl,rfl,rfl,h289_9,h289_24,h289_28,p289_0,_⟩
   refine Ai fun K290 k290=>?_
   refine w_q rfl rfl fun K291 k291=>?_
   refine Aa rfl (Ah (v:=(iV ((k:Int)))) h289_28) ?_
   refine Aa rfl (Ah (v:=v18_0) h289_9) ?_
   have g292:=Val.len r18_0
   refine Aa rfl (Ce (el:=53) Tryd.underlying46 rfl r18_0) ?_
   refine Aa rfl (Da (p:=(k:Int)) (q:=(((Sk l rs).length:Nat):Int)) rfl rfl) ?_
   apply Ac
   apply k291
   refine As (t:=decide ((k:Int) < (((Sk l rs).length:Nat):Int))) rfl (fun b293=>?_) (fun b293=>?_)
   ·have q293:=of_decide_eq_true b293
    refine Al ?_
    apply k290
    refine Ai fun K294 k294=>?_
    refine Ao ?_
    refine Ai fun K295 k295=>?_
    refine Dc [0,1,2,3,4,5,6,7,8,9,10,11,12,13,14,15] (by kernel_rfl) rfl rfl ?_
    refine Be (i:=0) Apx rfl (by kernel_rfl) rfl Ary rfl (Ah (v:=v18_0) h289_9) ?_
    refine Bg (i:=1) Arn rfl (by kernel_rfl) rfl Ary rfl (Ah (v:=(iV ((k:Int)))) h289_28) ?_
    obtain ⟨a297,ha297⟩:=Ed (xs:=Sk l rs) (i:=k) (by omega)
    refine Hl (i:=2) Aqz rfl (by kernel_rfl) rfl Ary rfl (Ci k Tryd.underlying46 Ov rfl r18_0 (q:=(k:Int)) rfl rfl ha297) fun v296 r296=>?_
    have ⟨g298a,g298b⟩:=At.rng r296
    refine Bg (i:=3) Arc rfl (by kernel_rfl) rfl Ary rfl (Bc Ov rfl r296) ?_
    refine Bg (i:=4) Ark rfl (by kernel_rfl) rfl Ary rfl (Dg (p:=a297) (q:=0) rfl rfl) ?_
    refine Bg (i:=5) Aqg rfl (by kernel_rfl) rfl Ary rfl (Ah (v:=(.bool (a297 != 0))) rfl) ?_
    refine Akl (a297 != 0) (fun b299=>?_) (fun b299=>?_)
    ·have q299:=Mb b299
     refine Be (i:=6) Aqb rfl (by kernel_rfl) rfl Ary (Ar rfl rfl rfl b299) (Ah (v:=v257_0) h289_24) ?_
     refine Be (i:=7) Aoa rfl (by kernel_rfl) rfl Ary (Ar rfl rfl rfl b299) (Ah (v:=(iV ((k:Int)))) h289_28) ?_
     obtain ⟨a301,ha301⟩:=Ed (xs:=Sk l (rs ++ [x])) (i:=k) (by omega)
     refine Cd (i:=8) Amy rfl (by kernel_rfl) rfl Ary (Ar rfl rfl rfl b299) (Ci k Tryd.underlying46 Ov rfl r257_0 (q:=(k:Int)) rfl rfl ha301) fun v300 r300=>?_
     have ⟨g302a,g302b⟩:=At.rng r300
     refine Be (i:=9) Anr rfl (by kernel_rfl) rfl Ary (Ar rfl rfl rfl b299) (Bc Ov rfl r300) ?_
     refine Be (i:=10) [o1,o1,o1,o1,o1,o1,o1,o1,o1,o1,o1,o0,o0,o0,o0,o0] rfl (by kernel_rfl) rfl Ary (Ar rfl rfl rfl b299) (Ah (v:=v18_0) h289_9) ?_
     refine Bg (i:=11) [o1,o1,o1,o1,o1,o1,o1,o1,o1,o1,o1,o1,o0,o0,o0,o0] rfl (by kernel_rfl) rfl Ary (Ar rfl rfl rfl b299) (Ah (v:=(iV ((k:Int)))) h289_28) ?_
     refine Hl (i:=12) Ans rfl (by kernel_rfl) rfl Ary (Ar rfl rfl rfl b299) (Ci k Tryd.underlying46 Ov rfl r18_0 (q:=(k:Int)) rfl rfl ha297) fun v303 r303=>?_
     have ⟨g304a,g304b⟩:=At.rng r303
     refine Bg (i:=13) Apc rfl (by kernel_rfl) rfl Ary (Ar rfl rfl rfl b299) (Bc Ov rfl r303) ?_
     refine Bg (i:=14) Amv rfl (by kernel_rfl) rfl Ary (Ar rfl rfl rfl b299) (Dg (p:=a301) (q:=a297) rfl rfl) ?_
     refine Bg (i:=15) Apa rfl (by kernel_rfl) rfl Ary rfl (Bt rfl b299 (v:=(.bool (a301 != a297))) rfl) ?_
     refine Ec rfl ?_
     apply k295
     refine As (t:=a301 != a297) rfl (fun b305=>?_) (fun b305=>?_)
     ·have q305:=Mb b305
      refine w_q rfl rfl fun K306 k306=>?_
      refine l_A (.bool (false)) rfl rfl ?_
      apply Ac
      apply k306
      refine Aj (Arw (Arz (Arz (Arz (Arz (Arz (Arz (Arz l2 l3) l18) l21) l248) l252) l257) l260)) ?_
      refine Aq ?_
      refine hret _ _ _ ?_
      refine ⟨rfl,rfl,Eq.trans (b:=(.bool (false))) rfl ?_⟩
      exfalso; exact absurd (hM2 _ _ _ ha297 ha301 (by omega)) (by omega)
     have q305:=Jh b305
     refine Al ?_
     apply k294
     refine Ag rfl rfl ?_
     refine Aa rfl (Ah (v:=(iV ((k:Int)))) h289_28) ?_
     refine Aa rfl (Br (p:=(k:Int)) (q:=1) rfl rfl (z:=(((k + 1):Nat):Int)) (Bo (by first | rfl | omega | (push_cast; rfl)) (by omega) (by omega))) ?_
     refine l_A (iV ((((k + 1):Nat):Int))) rfl rfl ?_
     apply Ac
     refine ⟨_,?_,((k + 1)),rfl,rfl,rfl,rfl,h289_9,h289_24,rfl,(by omega),trivial⟩
     omega
    have q299:=Jh b299
    refine Ua (i:=6) Aqb rfl (by kernel_rfl) rfl Ary (Bl rfl rfl rfl b299) ?_
    refine Ua (i:=7) Aoa rfl (by kernel_rfl) rfl Ary (Bl rfl rfl rfl b299) ?_
    refine Ua (i:=8) Amy rfl (by kernel_rfl) rfl Ary (Bl rfl rfl rfl b299) ?_
    refine Ua (i:=9) Anr rfl (by kernel_rfl) rfl Ary (Bl rfl rfl rfl b299) ?_
    refine Ua (i:=10) [o1,o1,o1,o1,o1,o1,o1,o1,o1,o1,o1,o0,o0,o0,o0,o0] rfl (by kernel_rfl) rfl Ary (Bl rfl rfl rfl b299) ?_
    refine Xl (i:=11) [o1,o1,o1,o1,o1,o1,o1,o1,o1,o1,o1,o1,o0,o0,o0,o0] rfl (by kernel_rfl) rfl Ary (Bl rfl rfl rfl b299) ?_
    refine Xl (i:=12) Ans rfl (by kernel_rfl) rfl Ary (Bl rfl rfl rfl b299) ?_
    refine Xl (i:=13) Apc rfl (by kernel_rfl) rfl Ary (Bl rfl rfl rfl b299) ?_
    refine Xl (i:=14) Amv rfl (by kernel_rfl) rfl Ary (Bl rfl rfl rfl b299) ?_
    refine Bg (i:=15) Apa rfl (by kernel_rfl) rfl Ary rfl (Bm rfl b299 (v:=(.bool (false))) rfl) ?_
    refine Ec rfl ?_
    apply k295
    refine Cg rfl rfl ?_
    refine Al ?_
    apply k294
    refine Ag rfl rfl ?_
    refine Aa rfl (Ah (v:=(iV ((k:Int)))) h289_28) ?_
    refine Aa rfl (Br (p:=(k:Int)) (q:=1) rfl rfl (z:=(((k + 1):Nat):Int)) (Bo (by first | rfl | omega | (push_cast; rfl)) (by omega) (by omega))) ?_
    refine l_A (iV ((((k + 1):Nat):Int))) rfl rfl ?_
    apply Ac
    refine ⟨_,?_,((k + 1)),rfl,rfl,rfl,rfl,h289_9,h289_24,rfl,(by omega),trivial⟩
    omega
   have q293:=of_decide_eq_false b293
   refine Bx ?_
   apply k287
   refine w_q rfl rfl fun K307 k307=>?_
   refine Ae rfl (Bn (vs:=[]) (v:=(.bool (true))) (c_tells hg hnr) Tryd.func17 rfl rfl trivial ?_)
   refine l_A (.bool (true)) rfl rfl ?_
   apply Ac
   apply k307
   refine Aj (Arw (Arz (Arz (Arz (Arz (Arz (Arz (Arz l2 l3) l18) l21) l248) l252) l257) l260)) ?_
   refine Aq ?_
   refine hret _ _ _ ?_
   refine ⟨rfl,rfl,Eq.trans (b:=(.bool (true))) rfl ?_⟩
   rfl
  ·refine Bi (α:=Found) (xs:=[x]) (vs:=[v243]) Tryd.underlying41 Aax Ahd rfl (by decide) (Dl (os:=[.tmp 127]) ⟨rfl,trivial⟩) ⟨r243,trivial⟩ rfl (by decide) fun k308 cs308 R308=>⟨Ary,?_⟩
   have G308:Grow ρ21 43 (.slice (some ⟨k308,0,none⟩) 1 1) ([x]:List Found) [(k308,Res.obj (.cells cs308.toArray 43 (0,0)))]:=Bs R308 rfl (by decide)
   refine Ej (σ':=([(k244,Res.obj (.cells cs244.toArray 43 (0,0)))] ++ ([(k308,Res.obj (.cells cs308.toArray 43 (0,0)))] ++ σ))) (Arx (List.perm_append_comm_assoc ([(k308,Res.obj (.cells cs308.toArray 43 (0,0)))]) ([(k244,Res.obj (.cells cs244.toArray 43 (0,0)))]) _)) id ?_
   refine Dj (i:=2) Aog rfl (by kernel_rfl) rfl rfl (Fx (σ:=([(k308,Res.obj (.cells cs308.toArray 43 (0,0)))] ++ σ)) (gr:=[(k244,Res.obj (.cells cs244.toArray 43 (0,0)))]) (xs:=([]:List Found)) (ys:=rs) Tryd.underlying41 Tryd.underlying41 (Ab Tryd.typeInfo43) rfl (Nat.le_of_ble_eq_true rfl) rfl rfl rfl rfl G244 rr (by simp only [List.length_append,List.length_take,List.length_drop,List.length_cons,List.length_nil] at *; omega) fun v309 gr309 G309=>⟨Ary,?_⟩)
   refine Ej (σ':=([(k308,Res.obj (.cells cs308.toArray 43 (0,0)))] ++ (gr309 ++ σ))) (Arx (List.perm_append_comm_assoc gr309 ([(k308,Res.obj (.cells cs308.toArray 43 (0,0)))]) _)) id ?_
   refine Ls G308 fun ρ311 l311 r311=>?_
   replace rr:=Asa l311 rr
   replace hg:=Glob.mono l311 hg
   replace r2:=Arv l311 r2
   replace r3:=Arv l311 r3
   replace r18_0:=Asa l311 r18_0
   replace r243:=Asa l311 r243
   replace G309:=Grow.mono l311 G309
   refine Dj (i:=5) Aoi rfl (by kernel_rfl) rfl rfl (Fx (σ:=σ) (gr:=gr309) (xs:=(([]:List Found) ++ rs)) (ys:=([x]:List Found)) Tryd.underlying41 Tryd.underlying41 (Ab Tryd.typeInfo43) rfl (Nat.le_of_ble_eq_true rfl) rfl rfl rfl rfl G309 r311 (by simp only [List.length_append,List.length_take,List.length_drop,List.length_cons,List.length_nil] at *; omega) fun v310 gr310 G310=>⟨l311,?_⟩)
   refine Bg (i:=6) Amx rfl (by kernel_rfl) rfl l311 rfl (Cp (v:=v310) rfl) ?_
   refine Ec rfl ?_
   apply k242
   refine Ai fun K312 k312=>?_
   refine w_q rfl rfl fun K313 k313=>?_
   refine Ak rfl (Ax Aaj rfl r2) fun v314 r314=>?_
   refine l_M v310 rfl rfl ?_
   refine Ca G310 fun ρ315 l315 r315=>?_
   replace hg:=Glob.mono l315 hg
   replace r2:=Arv l315 r2
   replace r18_0:=Asa l315 r18_0
   replace r314:=Asa l315 r314
   refine Ae rfl (Bn (vs:=[v314,v310]) (v:=(iV (Cw l (((([]:List Found) ++ rs) ++ ([x]:List Found)))))) (c_refCheckResults r314 r315) Tryd.func24 rfl rfl ⟨rfl,rfl,trivial⟩ ?_)
   refine Aa rfl (Dg (p:=Cw l (((([]:List Found) ++ rs) ++ ([x]:List Found)))) (q:=0) rfl rfl) ?_
   apply Ac
   apply k313
   refine As (t:=Cw l (((([]:List Found) ++ rs) ++ ([x]:List Found))) != 0) rfl (fun b316=>?_) (fun b316=>?_)
   ·have q316:=Mb b316
    refine w_q rfl rfl fun K317 k317=>?_
    refine Ae rfl (Bn (vs:=[]) (v:=(.bool (true))) (c_tells hg hnr) Tryd.func17 rfl rfl trivial ?_)
    refine l_A (.bool (true)) rfl rfl ?_
    apply Ac
    apply k317
    refine Aj (Arw (Arz (Arz (Arz (Arz (Arz l2 l3) l18) l21) l311) l315)) ?_
    refine Aq ?_
    refine hret _ _ _ ?_
    refine ⟨rfl,rfl,Eq.trans (b:=(.bool (true))) rfl ?_⟩
    rfl
   have hc2:Cw l (rs ++ [x]) = 0:=Jh b316
   obtain ⟨hM1,hM2,hM3⟩:=more_res hc0 hc2
   have q316:=Jh b316
   refine Al ?_
   apply k312
   refine w_q rfl rfl fun K318 k318=>?_
   refine Ak rfl (Ax Aaj rfl r2) fun v319 r319=>?_
   refine l_M v310 rfl rfl ?_
   refine Ae rfl (Cm (vs:=[v319,v310]) (c_BeliefsZ (rs:=(rs ++ [x])) hc2 rfl hg r319 r315) Tryd.func25 rfl rfl ⟨rfl,rfl,trivial⟩ fun w320 ρ320 σ320 hc320=>?_)
   obtain ⟨l320,s320,v320_0,w320e,r320_0⟩:=hc320
   replace s320:=s320.symm; subst s320 w320e
   replace hg:=Glob.mono l320 hg
   replace r2:=Arv l320 r2
   replace r18_0:=Asa l320 r18_0
   replace r315:=Asa l320 r315
   replace r319:=Asa l320 r319
   refine l_M (.tuple #[v320_0,(iV (0))]) rfl rfl ?_
   refine Aa rfl (Bk (vs:=#[v320_0,(iV (0))]) rfl (v:=v320_0) rfl) ?_
   refine Aa rfl (Bk (vs:=#[v320_0,(iV (0))]) rfl (v:=(iV (0))) rfl) ?_
   refine l_A v320_0 rfl rfl ?_
   refine l_A (iV (0)) rfl rfl ?_
   apply Ac
   apply k318
   refine w_q rfl rfl fun K321 k321=>?_
   refine Ak rfl (Ax Aaj rfl r2) fun v322 r322=>?_
   refine l_M v310 rfl rfl ?_
   refine Ae rfl (Cm (vs:=[v322,v310]) (c_TreeZ (rs:=(rs ++ [x])) hc2 rfl rfl hg r322 r315) Tryd.func26 rfl rfl ⟨rfl,rfl,trivial⟩ fun w323 ρ323 σ323 hc323=>?_)
   obtain ⟨l323,s323,v323_0,w323e,r323_0⟩:=hc323
   replace s323:=s323.symm; subst s323 w323e
   replace hg:=Glob.mono l323 hg
   replace r2:=Arv l323 r2
   replace r18_0:=Asa l323 r18_0
   replace r315:=Asa l323 r315
   replace r320_0:=Asa l323 r320_0
   replace r322:=Asa l323 r322
   refine l_M (.tuple #[v323_0,(iV (Xx l (rs ++ [x]))),(.bool (Yl l (rs ++ [x]))),(iV (0))]) rfl rfl ?_
   refine Aa rfl (Bk (vs:=#[v323_0,(iV (Xx l (rs ++ [x]))),(.bool (Yl l (rs ++ [x]))),(iV (0))]) rfl (v:=v323_0) rfl) ?_
   refine Aa rfl (Bk (vs:=#[v323_0,(iV (Xx l (rs ++ [x]))),(.bool (Yl l (rs ++ [x]))),(iV (0))]) rfl (v:=(iV (Xx l (rs ++ [x])))) rfl) ?_
   refine Aa rfl (Bk (vs:=#[v323_0,(iV (Xx l (rs ++ [x]))),(.bool (Yl l (rs ++ [x]))),(iV (0))]) rfl (v:=(.bool (Yl l (rs ++ [x])))) rfl) ?_
   refine Aa rfl (Bk (vs:=#[v323_0,(iV (Xx l (rs ++ [x]))),(.bool (Yl l (rs ++ [x]))),(iV (0))]) rfl (v:=(iV (0))) rfl) ?_
   refine l_A v323_0 rfl rfl ?_
   refine l_A (iV (Xx l (rs ++ [x]))) rfl rfl ?_
   refine l_A (.bool (Yl l (rs ++ [x]))) rfl rfl ?_
   refine l_A (iV (0)) rfl rfl ?_
   apply Ac
   apply k321
   refine Ai fun K324 k324=>?_
   refine w_q rfl rfl fun K325 k325=>?_
   refine l_M (iV (0)) rfl rfl ?_
   refine Aa rfl (Dg (p:=0) (q:=0) rfl rfl) ?_
   refine l_M (.bool (false)) rfl rfl ?_
   refine l_M (iV (0)) (Ar rfl rfl rfl rfl) rfl ?_
   refine Aa (Ar rfl rfl rfl rfl) (Dg (p:=0) (q:=0) rfl rfl) ?_
   refine Aa rfl (Bm rfl rfl (v:=(.bool (false))) rfl) ?_
   refine l_M (.bool (false)) rfl rfl ?_
   refine l_M v320_0 (Ar rfl rfl rfl rfl) rfl ?_
   have g326:=Val.len r320_0
   refine Aa (Ar rfl rfl rfl rfl) (Ce (el:=53) Tryd.underlying46 rfl r320_0) ?_
   refine l_M v18_0 (Ar rfl rfl rfl rfl) rfl ?_
   have g327:=Val.len r18_0
   refine Aa (Ar rfl rfl rfl rfl) (Ce (el:=53) Tryd.underlying46 rfl r18_0) ?_
   refine Aa (Ar rfl rfl rfl rfl) (Dg (p:=(((Sk l (rs ++ [x])).length:Nat):Int)) (q:=(((Sk l rs).length:Nat):Int)) rfl rfl) ?_
   refine Aa rfl (Bm rfl rfl (v:=(.bool ((((Sk l (rs ++ [x])).length:Nat):Int) != (((Sk l rs).length:Nat):Int)))) rfl) ?_
   refine l_M (.bool ((((Sk l (rs ++ [x])).length:Nat):Int) != (((Sk l rs).length:Nat):Int))) rfl rfl ?_
   refine l_M (.bool (Yl l rs)) (Ar rfl rfl rfl (by rw [hM1]; simp)) rfl ?_
   refine l_M (.bool (Yl l rs)) (Ar rfl rfl rfl (by rw [hM1]; simp)) rfl ?_
   refine Cn (Yl l rs) (fun b328=>?_) (fun b328=>?_)
   ·refine Aa (Ar rfl rfl rfl b328) (Ah (v:=(.bool (Yl l (rs ++ [x])))) rfl) ?_
    refine Aa (Ar rfl rfl rfl b328) (Ix (k:=Yl l (rs ++ [x])) rfl) ?_
    refine l_M (.bool (!(Yl l (rs ++ [x])))) (Ar rfl rfl rfl b328) rfl ?_
    refine l_M (iV (Xx l (rs ++ [x]))) (Ar rfl rfl rfl (not_t (hM3 b328).1)) rfl ?_
    refine l_M (iV (Xx l rs)) (Ar rfl rfl rfl (not_t (hM3 b328).1)) rfl ?_
    refine Aa (Ar rfl rfl rfl (not_t (hM3 b328).1)) (Gk (p:=Xx l (rs ++ [x])) (q:=Xx l rs) rfl rfl) ?_
    refine Aa (Ar rfl rfl rfl b328) (Bm rfl (not_t (hM3 b328).1) (v:=(.bool (decide (Xx l (rs ++ [x]) > Xx l rs)))) rfl) ?_
    refine Aa (Ar rfl rfl rfl (by rw [hM1]; simp)) (Bt rfl b328 (v:=(.bool (decide (Xx l (rs ++ [x]) > Xx l rs)))) rfl) ?_
    refine Aa rfl (Bm rfl (by rw [hM1]; simp) (v:=(.bool (decide (Xx l (rs ++ [x]) > Xx l rs)))) rfl) ?_
    apply Ac
    apply k325
    refine Cg rfl (decide_eq_false (by have:=(hM3 b328).2; omega)) ?_
    refine Al ?_
    apply k324
    refine Ai fun K329 k329=>?_
    refine w_q rfl rfl fun K330 k330=>?_
    refine l_A (iV (0)) rfl rfl ?_
    apply Ac
    apply k330
    refine Ao ?_
    refine Cc (fun mm ee dd ρ' σ'=>∃ (k:Nat),((Sk l rs).length - k) = mm∧[] = dd∧ρ323 = ρ'∧σ = σ'∧ee 9 = v18_0∧ee 24 = v320_0∧ee 28 = (iV ((k:Int)))∧(k ≤ (Sk l rs).length)∧True) (m:=_) ⟨0,rfl,rfl,rfl,rfl,rfl,rfl,rfl,(Nat.zero_le _),trivial⟩ ?_
    rintro m331 e331 _ _ _ ⟨k,rfl,rfl,rfl,rfl,h331_9,h331_24,h331_28,p331_0,_⟩
    refine Ai fun K332 k332=>?_
    refine w_q rfl rfl fun K333 k333=>?_
    refine Aa rfl (Ah (v:=(iV ((k:Int)))) h331_28) ?_
    refine Aa rfl (Ah (v:=v18_0) h331_9) ?_
    have g334:=Val.len r18_0
    refine Aa rfl (Ce (el:=53) Tryd.underlying46 rfl r18_0) ?_
    refine Aa rfl (Da (p:=(k:Int)) (q:=(((Sk l rs).length:Nat):Int)) rfl rfl) ?_
    apply Ac
    apply k333
    refine As (t:=decide ((k:Int) < (((Sk l rs).length:Nat):Int))) rfl (fun b335=>?_) (fun b335=>?_)
    ·have q335:=of_decide_eq_true b335
     refine Al ?_
     apply k332
     refine Ai fun K336 k336=>?_
     refine Ao ?_
     refine Ai fun K337 k337=>?_
     refine Dc [0,1,2,3,4,5,6,7,8,9,10,11,12,13,14,15] (by kernel_rfl) rfl rfl ?_
     refine Be (i:=0) Apx rfl (by kernel_rfl) rfl Ary rfl (Ah (v:=v18_0) h331_9) ?_
     refine Bg (i:=1) Arn rfl (by kernel_rfl) rfl Ary rfl (Ah (v:=(iV ((k:Int)))) h331_28) ?_
     obtain ⟨a339,ha339⟩:=Ed (xs:=Sk l rs) (i:=k) (by omega)
     refine Hl (i:=2) Aqz rfl (by kernel_rfl) rfl Ary rfl (Ci k Tryd.underlying46 Ov rfl r18_0 (q:=(k:Int)) rfl rfl ha339) fun v338 r338=>?_
     have ⟨g340a,g340b⟩:=At.rng r338
     refine Bg (i:=3) Arc rfl (by kernel_rfl) rfl Ary rfl (Bc Ov rfl r338) ?_
     refine Bg (i:=4) Ark rfl (by kernel_rfl) rfl Ary rfl (Dg (p:=a339) (q:=0) rfl rfl) ?_
     refine Bg (i:=5) Aqg rfl (by kernel_rfl) rfl Ary rfl (Ah (v:=(.bool (a339 != 0))) rfl) ?_
     refine Akl (a339 != 0) (fun b341=>?_) (fun b341=>?_)
     ·have q341:=Mb b341
      refine Be (i:=6) Aqb rfl (by kernel_rfl) rfl Ary (Ar rfl rfl rfl b341) (Ah (v:=v320_0) h331_24) ?_
      refine Be (i:=7) Aoa rfl (by kernel_rfl) rfl Ary (Ar rfl rfl rfl b341) (Ah (v:=(iV ((k:Int)))) h331_28) ?_
      obtain ⟨a343,ha343⟩:=Ed (xs:=Sk l (rs ++ [x])) (i:=k) (by omega)
      refine Cd (i:=8) Amy rfl (by kernel_rfl) rfl Ary (Ar rfl rfl rfl b341) (Ci k Tryd.underlying46 Ov rfl r320_0 (q:=(k:Int)) rfl rfl ha343) fun v342 r342=>?_
      have ⟨g344a,g344b⟩:=At.rng r342
      refine Be (i:=9) Anr rfl (by kernel_rfl) rfl Ary (Ar rfl rfl rfl b341) (Bc Ov rfl r342) ?_
      refine Be (i:=10) [o1,o1,o1,o1,o1,o1,o1,o1,o1,o1,o1,o0,o0,o0,o0,o0] rfl (by kernel_rfl) rfl Ary (Ar rfl rfl rfl b341) (Ah (v:=v18_0) h331_9) ?_
      refine Bg (i:=11) [o1,o1,o1,o1,o1,o1,o1,o1,o1,o1,o1,o1,o0,o0,o0,o0] rfl (by kernel_rfl) rfl Ary (Ar rfl rfl rfl b341) (Ah (v:=(iV ((k:Int)))) h331_28) ?_
      refine Hl (i:=12) Ans rfl (by kernel_rfl) rfl Ary (Ar rfl rfl rfl b341) (Ci k Tryd.underlying46 Ov rfl r18_0 (q:=(k:Int)) rfl rfl ha339) fun v345 r345=>?_
      have ⟨g346a,g346b⟩:=At.rng r345
      refine Bg (i:=13) Apc rfl (by kernel_rfl) rfl Ary (Ar rfl rfl rfl b341) (Bc Ov rfl r345) ?_
      refine Bg (i:=14) Amv rfl (by kernel_rfl) rfl Ary (Ar rfl rfl rfl b341) (Dg (p:=a343) (q:=a339) rfl rfl) ?_
      refine Bg (i:=15) Apa rfl (by kernel_rfl) rfl Ary rfl (Bt rfl b341 (v:=(.bool (a343 != a339))) rfl) ?_
      refine Ec rfl ?_
      apply k337
      refine As (t:=a343 != a339) rfl (fun b347=>?_) (fun b347=>?_)
      ·have q347:=Mb b347
       refine w_q rfl rfl fun K348 k348=>?_
       refine l_A (.bool (false)) rfl rfl ?_
       apply Ac
       apply k348
       refine Aj (Arw (Arz (Arz (Arz (Arz (Arz (Arz (Arz l2 l3) l18) l21) l311) l315) l320) l323)) ?_
       refine Aq ?_
       refine hret _ _ _ ?_
       refine ⟨rfl,rfl,Eq.trans (b:=(.bool (false))) rfl ?_⟩
       exfalso; exact absurd (hM2 _ _ _ ha339 ha343 (by omega)) (by omega)
      have q347:=Jh b347
      refine Al ?_
      apply k336
      refine Ag rfl rfl ?_
      refine Aa rfl (Ah (v:=(iV ((k:Int)))) h331_28) ?_
      refine Aa rfl (Br (p:=(k:Int)) (q:=1) rfl rfl (z:=(((k + 1):Nat):Int)) (Bo (by first | rfl | omega | (push_cast; rfl)) (by omega) (by omega))) ?_
      refine l_A (iV ((((k + 1):Nat):Int))) rfl rfl ?_
      apply Ac
      refine ⟨_,?_,((k + 1)),rfl,rfl,rfl,rfl,h331_9,h331_24,rfl,(by omega),trivial⟩
      omega
     have q341:=Jh b341
     refine Ua (i:=6) Aqb rfl (by kernel_rfl) rfl Ary (Bl rfl rfl rfl b341) ?_
     refine Ua (i:=7) Aoa rfl (by kernel_rfl) rfl Ary (Bl rfl rfl rfl b341) ?_
     refine Ua (i:=8) Amy rfl (by kernel_rfl) rfl Ary (Bl rfl rfl rfl b341) ?_
     refine Ua (i:=9) Anr rfl (by kernel_rfl) rfl Ary (Bl rfl rfl rfl b341) ?_
     refine Ua (i:=10) [o1,o1,o1,o1,o1,o1,o1,o1,o1,o1,o1,o0,o0,o0,o0,o0] rfl (by kernel_rfl) rfl Ary (Bl rfl rfl rfl b341) ?_
     refine Xl (i:=11) [o1,o1,o1,o1,o1,o1,o1,o1,o1,o1,o1,o1,o0,o0,o0,o0] rfl (by kernel_rfl) rfl Ary (Bl rfl rfl rfl b341) ?_
     refine Xl (i:=12) Ans rfl (by kernel_rfl) rfl Ary (Bl rfl rfl rfl b341) ?_
     refine Xl (i:=13) Apc rfl (by kernel_rfl) rfl Ary (Bl rfl rfl rfl b341) ?_
     refine Xl (i:=14) Amv rfl (by kernel_rfl) rfl Ary (Bl rfl rfl rfl b341) ?_
     refine Bg (i:=15) Apa rfl (by kernel_rfl) rfl Ary rfl (Bm rfl b341 (v:=(.bool (false))) rfl) ?_
     refine Ec rfl ?_
     apply k337
     refine Cg rfl rfl ?_
     refine Al ?_
     apply k336
     refine Ag rfl rfl ?_
     refine Aa rfl (Ah (v:=(iV ((k:Int)))) h331_28) ?_
     refine Aa rfl (Br (p:=(k:Int)) (q:=1) rfl rfl (z:=(((k + 1):Nat):Int)) (Bo (by first | rfl | omega | (push_cast; rfl)) (by omega) (by omega))) ?_
     refine l_A (iV ((((k + 1):Nat):Int))) rfl rfl ?_
     apply Ac
     refine ⟨_,?_,((k + 1)),rfl,rfl,rfl,rfl,h331_9,h331_24,rfl,(by omega),trivial⟩
     omega
    have q335:=of_decide_eq_false b335
    refine Bx ?_
    apply k329
    refine w_q rfl rfl fun K349 k349=>?_
    refine Ae rfl (Bn (vs:=[]) (v:=(.bool (true))) (c_tells hg hnr) Tryd.func17 rfl rfl trivial ?_)
    refine l_A (.bool (true)) rfl rfl ?_
    apply Ac
    apply k349
    refine Aj (Arw (Arz (Arz (Arz (Arz (Arz (Arz (Arz l2 l3) l18) l21) l311) l315) l320) l323)) ?_
    refine Aq ?_
    refine hret _ _ _ ?_
    refine ⟨rfl,rfl,Eq.trans (b:=(.bool (true))) rfl ?_⟩
    rfl
   refine Ap (Bl rfl rfl rfl b328) ?_
   refine Ap (Bl rfl rfl rfl b328) ?_
   refine Ap (Bl rfl rfl rfl b328) ?_
   refine Ap (Jf rfl rfl rfl) ?_
   refine Ap (Jf rfl rfl rfl) ?_
   refine Ap (Jf rfl rfl rfl) ?_
   refine Ap (Bl rfl rfl rfl b328) ?_
   refine Aa (Ar rfl rfl rfl (by rw [hM1]; simp)) (Bm rfl b328 (v:=(.bool (false))) rfl) ?_
   refine Aa rfl (Bm rfl (by rw [hM1]; simp) (v:=(.bool (false))) rfl) ?_
   apply Ac
   apply k325
   refine Cg rfl rfl ?_
   refine Al ?_
   apply k324
   refine Ai fun K350 k350=>?_
   refine w_q rfl rfl fun K351 k351=>?_
   refine l_A (iV (0)) rfl rfl ?_
   apply Ac
   apply k351
   refine Ao ?_
   refine Cc (fun mm ee dd ρ' σ'=>∃ (k:Nat),((Sk l rs).length - k) = mm∧[] = dd∧ρ323 = ρ'∧σ = σ'∧ee 9 = v18_0∧ee 24 = v320_0∧ee 28 = (iV ((k:Int)))∧(k ≤ (Sk l rs).length)∧True) (m:=_) ⟨0,rfl,rfl,rfl,rfl,rfl,rfl,rfl,(Nat.zero_le _),trivial⟩ ?_
   rintro m352 e352 _ _ _ ⟨k,rfl,rfl,rfl,rfl,h352_9,h352_24,h352_28,p352_0,_⟩
   refine Ai fun K353 k353=>?_
   refine w_q rfl rfl fun K354 k354=>?_
   refine Aa rfl (Ah (v:=(iV ((k:Int)))) h352_28) ?_
   refine Aa rfl (Ah (v:=v18_0) h352_9) ?_
   have g355:=Val.len r18_0
   refine Aa rfl (Ce (el:=53) Tryd.underlying46 rfl r18_0) ?_
   refine Aa rfl (Da (p:=(k:Int)) (q:=(((Sk l rs).length:Nat):Int)) rfl rfl) ?_
   apply Ac
   apply k354
   refine As (t:=decide ((k:Int) < (((Sk l rs).length:Nat):Int))) rfl (fun b356=>?_) (fun b356=>?_)
   ·have q356:=of_decide_eq_true b356
    refine Al ?_
    apply k353
    refine Ai fun K357 k357=>?_
    refine Ao ?_
    refine Ai fun K358 k358=>?_
    refine Dc [0,1,2,3,4,5,6,7,8,9,10,11,12,13,14,15] (by kernel_rfl) rfl rfl ?_
    refine Be (i:=0) Apx rfl (by kernel_rfl) rfl Ary rfl (Ah (v:=v18_0) h352_9) ?_
    refine Bg (i:=1) Arn rfl (by kernel_rfl) rfl Ary rfl (Ah (v:=(iV ((k:Int)))) h352_28) ?_
    obtain ⟨a360,ha360⟩:=Ed (xs:=Sk l rs) (i:=k) (by omega)
    refine Hl (i:=2) Aqz rfl (by kernel_rfl) rfl Ary rfl (Ci k Tryd.underlying46 Ov rfl r18_0 (q:=(k:Int)) rfl rfl ha360) fun v359 r359=>?_
    have ⟨g361a,g361b⟩:=At.rng r359
    refine Bg (i:=3) Arc rfl (by kernel_rfl) rfl Ary rfl (Bc Ov rfl r359) ?_
    refine Bg (i:=4) Ark rfl (by kernel_rfl) rfl Ary rfl (Dg (p:=a360) (q:=0) rfl rfl) ?_
    refine Bg (i:=5) Aqg rfl (by kernel_rfl) rfl Ary rfl (Ah (v:=(.bool (a360 != 0))) rfl) ?_
    refine Akl (a360 != 0) (fun b362=>?_) (fun b362=>?_)
    ·have q362:=Mb b362
     refine Be (i:=6) Aqb rfl (by kernel_rfl) rfl Ary (Ar rfl rfl rfl b362) (Ah (v:=v320_0) h352_24) ?_
     refine Be (i:=7) Aoa rfl (by kernel_rfl) rfl Ary (Ar rfl rfl rfl b362) (Ah (v:=(iV ((k:Int)))) h352_28) ?_
     obtain ⟨a364,ha364⟩:=Ed (xs:=Sk l (rs ++ [x])) (i:=k) (by omega)
     refine Cd (i:=8) Amy rfl (by kernel_rfl) rfl Ary (Ar rfl rfl rfl b362) (Ci k Tryd.underlying46 Ov rfl r320_0 (q:=(k:Int)) rfl rfl ha364) fun v363 r363=>?_
     have ⟨g365a,g365b⟩:=At.rng r363
     refine Be (i:=9) Anr rfl (by kernel_rfl) rfl Ary (Ar rfl rfl rfl b362) (Bc Ov rfl r363) ?_
     refine Be (i:=10) [o1,o1,o1,o1,o1,o1,o1,o1,o1,o1,o1,o0,o0,o0,o0,o0] rfl (by kernel_rfl) rfl Ary (Ar rfl rfl rfl b362) (Ah (v:=v18_0) h352_9) ?_
     refine Bg (i:=11) [o1,o1,o1,o1,o1,o1,o1,o1,o1,o1,o1,o1,o0,o0,o0,o0] rfl (by kernel_rfl) rfl Ary (Ar rfl rfl rfl b362) (Ah (v:=(iV ((k:Int)))) h352_28) ?_
     refine Hl (i:=12) Ans rfl (by kernel_rfl) rfl Ary (Ar rfl rfl rfl b362) (Ci k Tryd.underlying46 Ov rfl r18_0 (q:=(k:Int)) rfl rfl ha360) fun v366 r366=>?_
     have ⟨g367a,g367b⟩:=At.rng r366
     refine Bg (i:=13) Apc rfl (by kernel_rfl) rfl Ary (Ar rfl rfl rfl b362) (Bc Ov rfl r366) ?_
     refine Bg (i:=14) Amv rfl (by kernel_rfl) rfl Ary (Ar rfl rfl rfl b362) (Dg (p:=a364) (q:=a360) rfl rfl) ?_
     refine Bg (i:=15) Apa rfl (by kernel_rfl) rfl Ary rfl (Bt rfl b362 (v:=(.bool (a364 != a360))) rfl) ?_
     refine Ec rfl ?_
     apply k358
     refine As (t:=a364 != a360) rfl (fun b368=>?_) (fun b368=>?_)
     ·have q368:=Mb b368
      refine w_q rfl rfl fun K369 k369=>?_
      refine l_A (.bool (false)) rfl rfl ?_
      apply Ac
      apply k369
      refine Aj (Arw (Arz (Arz (Arz (Arz (Arz (Arz (Arz l2 l3) l18) l21) l311) l315) l320) l323)) ?_
      refine Aq ?_
      refine hret _ _ _ ?_
      refine ⟨rfl,rfl,Eq.trans (b:=(.bool (false))) rfl ?_⟩
      exfalso; exact absurd (hM2 _ _ _ ha360 ha364 (by omega)) (by omega)
     have q368:=Jh b368
     refine Al ?_
     apply k357
     refine Ag rfl rfl ?_
     refine Aa rfl (Ah (v:=(iV ((k:Int)))) h352_28) ?_
     refine Aa rfl (Br (p:=(k:Int)) (q:=1) rfl rfl (z:=(((k + 1):Nat):Int)) (Bo (by first | rfl | omega | (push_cast; rfl)) (by omega) (by omega))) ?_
     refine l_A (iV ((((k + 1):Nat):Int))) rfl rfl ?_
     apply Ac
     refine ⟨_,?_,((k + 1)),rfl,rfl,rfl,rfl,h352_9,h352_24,rfl,(by omega),trivial⟩
     omega
    have q362:=Jh b362
    refine Ua (i:=6) Aqb rfl (by kernel_rfl) rfl Ary (Bl rfl rfl rfl b362) ?_
    refine Ua (i:=7) Aoa rfl (by kernel_rfl) rfl Ary (Bl rfl rfl rfl b362) ?_
    refine Ua (i:=8) Amy rfl (by kernel_rfl) rfl Ary (Bl rfl rfl rfl b362) ?_
    refine Ua (i:=9) Anr rfl (by kernel_rfl) rfl Ary (Bl rfl rfl rfl b362) ?_
    refine Ua (i:=10) [o1,o1,o1,o1,o1,o1,o1,o1,o1,o1,o1,o0,o0,o0,o0,o0] rfl (by kernel_rfl) rfl Ary (Bl rfl rfl rfl b362) ?_
    refine Xl (i:=11) [o1,o1,o1,o1,o1,o1,o1,o1,o1,o1,o1,o1,o0,o0,o0,o0] rfl (by kernel_rfl) rfl Ary (Bl rfl rfl rfl b362) ?_
    refine Xl (i:=12) Ans rfl (by kernel_rfl) rfl Ary (Bl rfl rfl rfl b362) ?_
    refine Xl (i:=13) Apc rfl (by kernel_rfl) rfl Ary (Bl rfl rfl rfl b362) ?_
    refine Xl (i:=14) Amv rfl (by kernel_rfl) rfl Ary (Bl rfl rfl rfl b362) ?_
    refine Bg (i:=15) Apa rfl (by kernel_rfl) rfl Ary rfl (Bm rfl b362 (v:=(.bool (false))) rfl) ?_
    refine Ec rfl ?_
    apply k358
    refine Cg rfl rfl ?_
    refine Al ?_
    apply k357
    refine Ag rfl rfl ?_
    refine Aa rfl (Ah (v:=(iV ((k:Int)))) h352_28) ?_
    refine Aa rfl (Br (p:=(k:Int)) (q:=1) rfl rfl (z:=(((k + 1):Nat):Int)) (Bo (by first | rfl | omega | (push_cast; rfl)) (by omega) (by omega))) ?_
    refine l_A (iV ((((k + 1):Nat):Int))) rfl rfl ?_
    apply Ac
    refine ⟨_,?_,((k + 1)),rfl,rfl,rfl,rfl,h352_9,h352_24,rfl,(by omega),trivial⟩
    omega
   have q356:=of_decide_eq_false b356
   refine Bx ?_
   apply k350
   refine w_q rfl rfl fun K370 k370=>?_
   refine Ae rfl (Bn (vs:=[]) (v:=(.bool (true))) (c_tells hg hnr) Tryd.func17 rfl rfl trivial ?_)
   refine l_A (.bool (true)) rfl rfl ?_
   apply Ac
   apply k370
   refine Aj (Arw (Arz (Arz (Arz (Arz (Arz (Arz (Arz l2 l3) l18) l21) l311) l315) l320) l323)) ?_
   refine Aq ?_
   refine hret _ _ _ ?_
   refine ⟨rfl,rfl,Eq.trans (b:=(.bool (true))) rfl ?_⟩
   rfl
 ·refine Bi (α:=Found) (xs:=[x]) (vs:=[v243]) Tryd.underlying41 Aax Ahd rfl (by decide) (Dl (os:=[.tmp 127]) ⟨rfl,trivial⟩) ⟨r243,trivial⟩ rfl (by decide) fun k371 cs371 R371=>⟨Ary,?_⟩
  have G371:Grow ρ21 43 (.slice (some ⟨k371,0,none⟩) 1 1) ([x]:List Found) [(k371,Res.obj (.cells cs371.toArray 43 (0,0)))]:=Bs R371 rfl (by decide)
  refine Dj (i:=0) [o1,o1,o0,o1,o1,o0,o0] rfl (by kernel_rfl) rfl rfl (Bi (α:=Found) (xs:=[]) (vs:=[]) Tryd.underlying41 Aax Ahd rfl (by decide) rfl trivial rfl (by decide) fun k372 cs372 R372=>⟨Ary,?_⟩)
  have G372:Grow ρ21 43 (.slice (some ⟨k372,0,none⟩) 0 0) ([]:List Found) [(k372,Res.obj (.cells cs372.toArray 43 (0,0)))]:=Bs R372 rfl (by decide)
  refine Dj (i:=2) Aog rfl (by kernel_rfl) rfl rfl (Fx (σ:=([(k371,Res.obj (.cells cs371.toArray 43 (0,0)))] ++ σ)) (gr:=[(k372,Res.obj (.cells cs372.toArray 43 (0,0)))]) (xs:=([]:List Found)) (ys:=rs) Tryd.underlying41 Tryd.underlying41 (Ab Tryd.typeInfo43) rfl (Nat.le_of_ble_eq_true rfl) rfl rfl rfl rfl G372 rr (by simp only [List.length_append,List.length_take,List.length_drop,List.length_cons,List.length_nil] at *; omega) fun v373 gr373 G373=>⟨Ary,?_⟩)
  refine Ej (σ':=([(k371,Res.obj (.cells cs371.toArray 43 (0,0)))] ++ (gr373 ++ σ))) (Arx (List.perm_append_comm_assoc gr373 ([(k371,Res.obj (.cells cs371.toArray 43 (0,0)))]) _)) id ?_
  refine Ls G371 fun ρ375 l375 r375=>?_
  replace rr:=Asa l375 rr
  replace hg:=Glob.mono l375 hg
  replace r2:=Arv l375 r2
  replace r3:=Arv l375 r3
  replace r18_0:=Asa l375 r18_0
  replace r243:=Asa l375 r243
  replace G373:=Grow.mono l375 G373
  refine Dj (i:=5) Aoi rfl (by kernel_rfl) rfl rfl (Fx (σ:=σ) (gr:=gr373) (xs:=(([]:List Found) ++ rs)) (ys:=([x]:List Found)) Tryd.underlying41 Tryd.underlying41 (Ab Tryd.typeInfo43) rfl (Nat.le_of_ble_eq_true rfl) rfl rfl rfl rfl G373 r375 (by simp only [List.length_append,List.length_take,List.length_drop,List.length_cons,List.length_nil] at *; omega) fun v374 gr374 G374=>⟨l375,?_⟩)
  refine Bg (i:=6) Amx rfl (by kernel_rfl) rfl l375 rfl (Cp (v:=v374) rfl) ?_
  refine Ec rfl ?_
  apply k242
  refine Ai fun K376 k376=>?_
  refine w_q rfl rfl fun K377 k377=>?_
  refine Ak rfl (Ax Aaj rfl r2) fun v378 r378=>?_
  refine l_M v374 rfl rfl ?_
  refine Ca G374 fun ρ379 l379 r379=>?_
  replace hg:=Glob.mono l379 hg
  replace r2:=Arv l379 r2
  replace r18_0:=Asa l379 r18_0
  replace r378:=Asa l379 r378
  refine Ae rfl (Bn (vs:=[v378,v374]) (v:=(iV (Cw l (((([]:List Found) ++ rs) ++ ([x]:List Found)))))) (c_refCheckResults r378 r379) Tryd.func24 rfl rfl ⟨rfl,rfl,trivial⟩ ?_)
  refine Aa rfl (Dg (p:=Cw l (((([]:List Found) ++ rs) ++ ([x]:List Found)))) (q:=0) rfl rfl) ?_
  apply Ac
  apply k377
  refine As (t:=Cw l (((([]:List Found) ++ rs) ++ ([x]:List Found))) != 0) rfl (fun b380=>?_) (fun b380=>?_)
  ·have q380:=Mb b380
   refine w_q rfl rfl fun K381 k381=>?_
   refine Ae rfl (Bn (vs:=[]) (v:=(.bool (true))) (c_tells hg hnr) Tryd.func17 rfl rfl trivial ?_)
   refine l_A (.bool (true)) rfl rfl ?_
   apply Ac
   apply k381
   refine Aj (Arw (Arz (Arz (Arz (Arz (Arz l2 l3) l18) l21) l375) l379)) ?_
   refine Aq ?_
   refine hret _ _ _ ?_
   refine ⟨rfl,rfl,Eq.trans (b:=(.bool (true))) rfl ?_⟩
   rfl
  have hc2:Cw l (rs ++ [x]) = 0:=Jh b380
  obtain ⟨hM1,hM2,hM3⟩:=more_res hc0 hc2
  have q380:=Jh b380
  refine Al ?_
  apply k376
  refine w_q rfl rfl fun K382 k382=>?_
  refine Ak rfl (Ax Aaj rfl r2) fun v383 r383=>?_
  refine l_M v374 rfl rfl ?_
  refine Ae rfl (Cm (vs:=[v383,v374]) (c_BeliefsZ (rs:=(rs ++ [x])) hc2 rfl hg r383 r379) Tryd.func25 rfl rfl ⟨rfl,rfl,trivial⟩ fun w384 ρ384 σ384 hc384=>?_)
  obtain ⟨l384,s384,v384_0,w384e,r384_0⟩:=hc384
  replace s384:=s384.symm; subst s384 w384e
  replace hg:=Glob.mono l384 hg
  replace r2:=Arv l384 r2
  replace r18_0:=Asa l384 r18_0
  replace r379:=Asa l384 r379
  replace r383:=Asa l384 r383
  refine l_M (.tuple #[v384_0,(iV (0))]) rfl rfl ?_
  refine Aa rfl (Bk (vs:=#[v384_0,(iV (0))]) rfl (v:=v384_0) rfl) ?_
  refine Aa rfl (Bk (vs:=#[v384_0,(iV (0))]) rfl (v:=(iV (0))) rfl) ?_
  refine l_A v384_0 rfl rfl ?_
  refine l_A (iV (0)) rfl rfl ?_
  apply Ac
  apply k382
  refine w_q rfl rfl fun K385 k385=>?_
  refine Ak rfl (Ax Aaj rfl r2) fun v386 r386=>?_
  refine l_M v374 rfl rfl ?_
  refine Ae rfl (Cm (vs:=[v386,v374]) (c_TreeZ (rs:=(rs ++ [x])) hc2 rfl rfl hg r386 r379) Tryd.func26 rfl rfl ⟨rfl,rfl,trivial⟩ fun w387 ρ387 σ387 hc387=>?_)
  obtain ⟨l387,s387,v387_0,w387e,r387_0⟩:=hc387
  replace s387:=s387.symm; subst s387 w387e
  replace hg:=Glob.mono l387 hg
  replace r2:=Arv l387 r2
  replace r18_0:=Asa l387 r18_0
  replace r379:=Asa l387 r379
  replace r384_0:=Asa l387 r384_0
  replace r386:=Asa l387 r386
  refine l_M (.tuple #[v387_0,(iV (Xx l (rs ++ [x]))),(.bool (Yl l (rs ++ [x]))),(iV (0))]) rfl rfl ?_
  refine Aa rfl (Bk (vs:=#[v387_0,(iV (Xx l (rs ++ [x]))),(.bool (Yl l (rs ++ [x]))),(iV (0))]) rfl (v:=v387_0) rfl) ?_
  refine Aa rfl (Bk (vs:=#[v387_0,(iV (Xx l (rs ++ [x]))),(.bool (Yl l (rs ++ [x]))),(iV (0))]) rfl (v:=(iV (Xx l (rs ++ [x])))) rfl) ?_
  refine Aa rfl (Bk (vs:=#[v387_0,(iV (Xx l (rs ++ [x]))),(.bool (Yl l (rs ++ [x]))),(iV (0))]) rfl (v:=(.bool (Yl l (rs ++ [x])))) rfl) ?_
  refine Aa rfl (Bk (vs:=#[v387_0,(iV (Xx l (rs ++ [x]))),(.bool (Yl l (rs ++ [x]))),(iV (0))]) rfl (v:=(iV (0))) rfl) ?_
  refine l_A v387_0 rfl rfl ?_
  refine l_A (iV (Xx l (rs ++ [x]))) rfl rfl ?_
  refine l_A (.bool (Yl l (rs ++ [x]))) rfl rfl ?_
  refine l_A (iV (0)) rfl rfl ?_
  apply Ac
  apply k385
  refine Ai fun K388 k388=>?_
  refine w_q rfl rfl fun K389 k389=>?_
  refine l_M (iV (0)) rfl rfl ?_
  refine Aa rfl (Dg (p:=0) (q:=0) rfl rfl) ?_
  refine l_M (.bool (false)) rfl rfl ?_
  refine l_M (iV (0)) (Ar rfl rfl rfl rfl) rfl ?_
  refine Aa (Ar rfl rfl rfl rfl) (Dg (p:=0) (q:=0) rfl rfl) ?_
  refine Aa rfl (Bm rfl rfl (v:=(.bool (false))) rfl) ?_
  refine l_M (.bool (false)) rfl rfl ?_
  refine l_M v384_0 (Ar rfl rfl rfl rfl) rfl ?_
  have g390:=Val.len r384_0
  refine Aa (Ar rfl rfl rfl rfl) (Ce (el:=53) Tryd.underlying46 rfl r384_0) ?_
  refine l_M v18_0 (Ar rfl rfl rfl rfl) rfl ?_
  have g391:=Val.len r18_0
  refine Aa (Ar rfl rfl rfl rfl) (Ce (el:=53) Tryd.underlying46 rfl r18_0) ?_
  refine Aa (Ar rfl rfl rfl rfl) (Dg (p:=(((Sk l (rs ++ [x])).length:Nat):Int)) (q:=(((Sk l rs).length:Nat):Int)) rfl rfl) ?_
  refine Aa rfl (Bm rfl rfl (v:=(.bool ((((Sk l (rs ++ [x])).length:Nat):Int) != (((Sk l rs).length:Nat):Int)))) rfl) ?_
  refine l_M (.bool ((((Sk l (rs ++ [x])).length:Nat):Int) != (((Sk l rs).length:Nat):Int))) rfl rfl ?_
  refine l_M (.bool (Yl l rs)) (Ar rfl rfl rfl (by rw [hM1]; simp)) rfl ?_
  refine l_M (.bool (Yl l rs)) (Ar rfl rfl rfl (by rw [hM1]; simp)) rfl ?_
  refine Cn (Yl l rs) (fun b392=>?_) (fun b392=>?_)
  ·refine Aa (Ar rfl rfl rfl b392) (Ah (v:=(.bool (Yl l (rs ++ [x])))) rfl) ?_
   refine Aa (Ar rfl rfl rfl b392) (Ix (k:=Yl l (rs ++ [x])) rfl) ?_
   refine l_M (.bool (!(Yl l (rs ++ [x])))) (Ar rfl rfl rfl b392) rfl ?_
   refine l_M (iV (Xx l (rs ++ [x]))) (Ar rfl rfl rfl (not_t (hM3 b392).1)) rfl ?_
   refine l_M (iV (Xx l rs)) (Ar rfl rfl rfl (not_t (hM3 b392).1)) rfl ?_
   refine Aa (Ar rfl rfl rfl (not_t (hM3 b392).1)) (Gk (p:=Xx l (rs ++ [x])) (q:=Xx l rs) rfl rfl) ?_
   refine Aa (Ar rfl rfl rfl b392) (Bm rfl (not_t (hM3 b392).1) (v:=(.bool (decide (Xx l (rs ++ [x]) > Xx l rs)))) rfl) ?_
   refine Aa (Ar rfl rfl rfl (by rw [hM1]; simp)) (Bt rfl b392 (v:=(.bool (decide (Xx l (rs ++ [x]) > Xx l rs)))) rfl) ?_
   refine Aa rfl (Bm rfl (by rw [hM1]; simp) (v:=(.bool (decide (Xx l (rs ++ [x]) > Xx l rs)))) rfl) ?_
   apply Ac
   apply k389
   refine Cg rfl (decide_eq_false (by have:=(hM3 b392).2; omega)) ?_
   refine Al ?_
   apply k388
   refine Ai fun K393 k393=>?_
   refine w_q rfl rfl fun K394 k394=>?_
   refine l_A (iV (0)) rfl rfl ?_
   apply Ac
   apply k394
   refine Ao ?_
   refine Cc (fun mm ee dd ρ' σ'=>∃ (k:Nat),((Sk l rs).length - k) = mm∧[] = dd∧ρ387 = ρ'∧σ = σ'∧ee 9 = v18_0∧ee 24 = v384_0∧ee 28 = (iV ((k:Int)))∧(k ≤ (Sk l rs).length)∧True) (m:=_) ⟨0,rfl,rfl,rfl,rfl,rfl,rfl,rfl,(Nat.zero_le _),trivial⟩ ?_
   rintro m395 e395 _ _ _ ⟨k,rfl,rfl,rfl,rfl,h395_9,h395_24,h395_28,p395_0,_⟩
   refine Ai fun K396 k396=>?_
   refine w_q rfl rfl fun K397 k397=>?_
   refine Aa rfl (Ah (v:=(iV ((k:Int)))) h395_28) ?_
   refine Aa rfl (Ah (v:=v18_0) h395_9) ?_
   have g398:=Val.len r18_0
   refine Aa rfl (Ce (el:=53) Tryd.underlying46 rfl r18_0) ?_
   refine Aa rfl (Da (p:=(k:Int)) (q:=(((Sk l rs).length:Nat):Int)) rfl rfl) ?_
   apply Ac
   apply k397
   refine As (t:=decide ((k:Int) < (((Sk l rs).length:Nat):Int))) rfl (fun b399=>?_) (fun b399=>?_)
   ·have q399:=of_decide_eq_true b399
    refine Al ?_
    apply k396
    refine Ai fun K400 k400=>?_
    refine Ao ?_
    refine Ai fun K401 k401=>?_
    refine Dc [0,1,2,3,4,5,6,7,8,9,10,11,12,13,14,15] (by kernel_rfl) rfl rfl ?_
    refine Be (i:=0) Apx rfl (by kernel_rfl) rfl Ary rfl (Ah (v:=v18_0) h395_9) ?_
    refine Bg (i:=1) Arn rfl (by kernel_rfl) rfl Ary rfl (Ah (v:=(iV ((k:Int)))) h395_28) ?_
    obtain ⟨a403,ha403⟩:=Ed (xs:=Sk l rs) (i:=k) (by omega)
    refine Hl (i:=2) Aqz rfl (by kernel_rfl) rfl Ary rfl (Ci k Tryd.underlying46 Ov rfl r18_0 (q:=(k:Int)) rfl rfl ha403) fun v402 r402=>?_
    have ⟨g404a,g404b⟩:=At.rng r402
    refine Bg (i:=3) Arc rfl (by kernel_rfl) rfl Ary rfl (Bc Ov rfl r402) ?_
    refine Bg (i:=4) Ark rfl (by kernel_rfl) rfl Ary rfl (Dg (p:=a403) (q:=0) rfl rfl) ?_
    refine Bg (i:=5) Aqg rfl (by kernel_rfl) rfl Ary rfl (Ah (v:=(.bool (a403 != 0))) rfl) ?_
    refine Akl (a403 != 0) (fun b405=>?_) (fun b405=>?_)
    ·have q405:=Mb b405
     refine Be (i:=6) Aqb rfl (by kernel_rfl) rfl Ary (Ar rfl rfl rfl b405) (Ah (v:=v384_0) h395_24) ?_
     refine Be (i:=7) Aoa rfl (by kernel_rfl) rfl Ary (Ar rfl rfl rfl b405) (Ah (v:=(iV ((k:Int)))) h395_28) ?_
     obtain ⟨a407,ha407⟩:=Ed (xs:=Sk l (rs ++ [x])) (i:=k) (by omega)
     refine Cd (i:=8) Amy rfl (by kernel_rfl) rfl Ary (Ar rfl rfl rfl b405) (Ci k Tryd.underlying46 Ov rfl r384_0 (q:=(k:Int)) rfl rfl ha407) fun v406 r406=>?_
     have ⟨g408a,g408b⟩:=At.rng r406
     refine Be (i:=9) Anr rfl (by kernel_rfl) rfl Ary (Ar rfl rfl rfl b405) (Bc Ov rfl r406) ?_
     refine Be (i:=10) [o1,o1,o1,o1,o1,o1,o1,o1,o1,o1,o1,o0,o0,o0,o0,o0] rfl (by kernel_rfl) rfl Ary (Ar rfl rfl rfl b405) (Ah (v:=v18_0) h395_9) ?_
     refine Bg (i:=11) [o1,o1,o1,o1,o1,o1,o1,o1,o1,o1,o1,o1,o0,o0,o0,o0] rfl (by kernel_rfl) rfl Ary (Ar rfl rfl rfl b405) (Ah (v:=(iV ((k:Int)))) h395_28) ?_
     refine Hl (i:=12) Ans rfl (by kernel_rfl) rfl Ary (Ar rfl rfl rfl b405) (Ci k Tryd.underlying46 Ov rfl r18_0 (q:=(k:Int)) rfl rfl ha403) fun v409 r409=>?_
     have ⟨g410a,g410b⟩:=At.rng r409
     refine Bg (i:=13) Apc rfl (by kernel_rfl) rfl Ary (Ar rfl rfl rfl b405) (Bc Ov rfl r409) ?_
     refine Bg (i:=14) Amv rfl (by kernel_rfl) rfl Ary (Ar rfl rfl rfl b405) (Dg (p:=a407) (q:=a403) rfl rfl) ?_
     refine Bg (i:=15) Apa rfl (by kernel_rfl) rfl Ary rfl (Bt rfl b405 (v:=(.bool (a407 != a403))) rfl) ?_
     refine Ec rfl ?_
     apply k401
     refine As (t:=a407 != a403) rfl (fun b411=>?_) (fun b411=>?_)
     ·have q411:=Mb b411
      refine w_q rfl rfl fun K412 k412=>?_
      refine l_A (.bool (false)) rfl rfl ?_
      apply Ac
      apply k412
      refine Aj (Arw (Arz (Arz (Arz (Arz (Arz (Arz (Arz l2 l3) l18) l21) l375) l379) l384) l387)) ?_
      refine Aq ?_
      refine hret _ _ _ ?_
      refine ⟨rfl,rfl,Eq.trans (b:=(.bool (false))) rfl ?_⟩
      exfalso; exact absurd (hM2 _ _ _ ha403 ha407 (by omega)) (by omega)
     have q411:=Jh b411
     refine Al ?_
     apply k400
     refine Ag rfl rfl ?_
     refine Aa rfl (Ah (v:=(iV ((k:Int)))) h395_28) ?_
     refine Aa rfl (Br (p:=(k:Int)) (q:=1) rfl rfl (z:=(((k + 1):Nat):Int)) (Bo (by first | rfl | omega | (push_cast; rfl)) (by omega) (by omega))) ?_
     refine l_A (iV ((((k + 1):Nat):Int))) rfl rfl ?_
     apply Ac
     refine ⟨_,?_,((k + 1)),rfl,rfl,rfl,rfl,h395_9,h395_24,rfl,(by omega),trivial⟩
     omega
    have q405:=Jh b405
    refine Ua (i:=6) Aqb rfl (by kernel_rfl) rfl Ary (Bl rfl rfl rfl b405) ?_
    refine Ua (i:=7) Aoa rfl (by kernel_rfl) rfl Ary (Bl rfl rfl rfl b405) ?_
    refine Ua (i:=8) Amy rfl (by kernel_rfl) rfl Ary (Bl rfl rfl rfl b405) ?_
    refine Ua (i:=9) Anr rfl (by kernel_rfl) rfl Ary (Bl rfl rfl rfl b405) ?_
    refine Ua (i:=10) [o1,o1,o1,o1,o1,o1,o1,o1,o1,o1,o1,o0,o0,o0,o0,o0] rfl (by kernel_rfl) rfl Ary (Bl rfl rfl rfl b405) ?_
    refine Xl (i:=11) [o1,o1,o1,o1,o1,o1,o1,o1,o1,o1,o1,o1,o0,o0,o0,o0] rfl (by kernel_rfl) rfl Ary (Bl rfl rfl rfl b405) ?_
    refine Xl (i:=12) Ans rfl (by kernel_rfl) rfl Ary (Bl rfl rfl rfl b405) ?_
    refine Xl (i:=13) Apc rfl (by kernel_rfl) rfl Ary (Bl rfl rfl rfl b405) ?_
    refine Xl (i:=14) Amv rfl (by kernel_rfl) rfl Ary (Bl rfl rfl rfl b405) ?_
    refine Bg (i:=15) Apa rfl (by kernel_rfl) rfl Ary rfl (Bm rfl b405 (v:=(.bool (false))) rfl) ?_
    refine Ec rfl ?_
    apply k401
    refine Cg rfl rfl ?_
    refine Al ?_
    apply k400
    refine Ag rfl rfl ?_
    refine Aa rfl (Ah (v:=(iV ((k:Int)))) h395_28) ?_
    refine Aa rfl (Br (p:=(k:Int)) (q:=1) rfl rfl (z:=(((k + 1):Nat):Int)) (Bo (by first | rfl | omega | (push_cast; rfl)) (by omega) (by omega))) ?_
    refine l_A (iV ((((k + 1):Nat):Int))) rfl rfl ?_
    apply Ac
    refine ⟨_,?_,((k + 1)),rfl,rfl,rfl,rfl,h395_9,h395_24,rfl,(by omega),trivial⟩
    omega
   have q399:=of_decide_eq_false b399
   refine Bx ?_
   apply k393
   refine w_q rfl rfl fun K413 k413=>?_
   refine Ae rfl (Bn (vs:=[]) (v:=(.bool (true))) (c_tells hg hnr) Tryd.func17 rfl rfl trivial ?_)
   refine l_A (.bool (true)) rfl rfl ?_
   apply Ac
   apply k413
   refine Aj (Arw (Arz (Arz (Arz (Arz (Arz (Arz (Arz l2 l3) l18) l21) l375) l379) l384) l387)) ?_
   refine Aq ?_
   refine hret _ _ _ ?_
   refine ⟨rfl,rfl,Eq.trans (b:=(.bool (true))) rfl ?_⟩
   rfl
  refine Ap (Bl rfl rfl rfl b392) ?_
  refine Ap (Bl rfl rfl rfl b392) ?_
  refine Ap (Bl rfl rfl rfl b392) ?_
  refine Ap (Jf rfl rfl rfl) ?_
  refine Ap (Jf rfl rfl rfl) ?_
  refine Ap (Jf rfl rfl rfl) ?_
  refine Ap (Bl rfl rfl rfl b392) ?_
  refine Aa (Ar rfl rfl rfl (by rw [hM1]; simp)) (Bm rfl b392 (v:=(.bool (false))) rfl) ?_
  refine Aa rfl (Bm rfl (by rw [hM1]; simp) (v:=(.bool (false))) rfl) ?_
  apply Ac
  apply k389
  refine Cg rfl rfl ?_
  refine Al ?_
  apply k388
  refine Ai fun K414 k414=>?_
  refine w_q rfl rfl fun K415 k415=>?_
  refine l_A (iV (0)) rfl rfl ?_
  apply Ac
  apply k415
  refine Ao ?_
  refine Cc (fun mm ee dd ρ' σ'=>∃ (k:Nat),((Sk l rs).length - k) = mm∧[] = dd∧ρ387 = ρ'∧σ = σ'∧ee 9 = v18_0∧ee 24 = v384_0∧ee 28 = (iV ((k:Int)))∧(k ≤ (Sk l rs).length)∧True) (m:=_) ⟨0,rfl,rfl,rfl,rfl,rfl,rfl,rfl,(Nat.zero_le _),trivial⟩ ?_
  rintro m416 e416 _ _ _ ⟨k,rfl,rfl,rfl,rfl,h416_9,h416_24,h416_28,p416_0,_⟩
  refine Ai fun K417 k417=>?_
  refine w_q rfl rfl fun K418 k418=>?_
  refine Aa rfl (Ah (v:=(iV ((k:Int)))) h416_28) ?_
  refine Aa rfl (Ah (v:=v18_0) h416_9) ?_
  have g419:=Val.len r18_0
  refine Aa rfl (Ce (el:=53) Tryd.underlying46 rfl r18_0) ?_
  refine Aa rfl (Da (p:=(k:Int)) (q:=(((Sk l rs).length:Nat):Int)) rfl rfl) ?_
  apply Ac
  apply k418
  refine As (t:=decide ((k:Int) < (((Sk l rs).length:Nat):Int))) rfl (fun b420=>?_) (fun b420=>?_)
  ·have q420:=of_decide_eq_true b420
   refine Al ?_
   apply k417
   refine Ai fun K421 k421=>?_
   refine Ao ?_
   refine Ai fun K422 k422=>?_
   refine Dc [0,1,2,3,4,5,6,7,8,9,10,11,12,13,14,15] (by kernel_rfl) rfl rfl ?_
   refine Be (i:=0) Apx rfl (by kernel_rfl) rfl Ary rfl (Ah (v:=v18_0) h416_9) ?_
   refine Bg (i:=1) Arn rfl (by kernel_rfl) rfl Ary rfl (Ah (v:=(iV ((k:Int)))) h416_28) ?_
   obtain ⟨a424,ha424⟩:=Ed (xs:=Sk l rs) (i:=k) (by omega)
   refine Hl (i:=2) Aqz rfl (by kernel_rfl) rfl Ary rfl (Ci k Tryd.underlying46 Ov rfl r18_0 (q:=(k:Int)) rfl rfl ha424) fun v423 r423=>?_
   have ⟨g425a,g425b⟩:=At.rng r423
   refine Bg (i:=3) Arc rfl (by kernel_rfl) rfl Ary rfl (Bc Ov rfl r423) ?_
   refine Bg (i:=4) Ark rfl (by kernel_rfl) rfl Ary rfl (Dg (p:=a424) (q:=0) rfl rfl) ?_
   refine Bg (i:=5) Aqg rfl (by kernel_rfl) rfl Ary rfl (Ah (v:=(.bool (a424 != 0))) rfl) ?_
   refine Akl (a424 != 0) (fun b426=>?_) (fun b426=>?_)
   ·have q426:=Mb b426
    refine Be (i:=6) Aqb rfl (by kernel_rfl) rfl Ary (Ar rfl rfl rfl b426) (Ah (v:=v384_0) h416_24) ?_
    refine Be (i:=7) Aoa rfl (by kernel_rfl) rfl Ary (Ar rfl rfl rfl b426) (Ah (v:=(iV ((k:Int)))) h416_28) ?_
    obtain ⟨a428,ha428⟩:=Ed (xs:=Sk l (rs ++ [x])) (i:=k) (by omega)
    refine Cd (i:=8) Amy rfl (by kernel_rfl) rfl Ary (Ar rfl rfl rfl b426) (Ci k Tryd.underlying46 Ov rfl r384_0 (q:=(k:Int)) rfl rfl ha428) fun v427 r427=>?_
    have ⟨g429a,g429b⟩:=At.rng r427
    refine Be (i:=9) Anr rfl (by kernel_rfl) rfl Ary (Ar rfl rfl rfl b426) (Bc Ov rfl r427) ?_
    refine Be (i:=10) [o1,o1,o1,o1,o1,o1,o1,o1,o1,o1,o1,o0,o0,o0,o0,o0] rfl (by kernel_rfl) rfl Ary (Ar rfl rfl rfl b426) (Ah (v:=v18_0) h416_9) ?_
    refine Bg (i:=11) [o1,o1,o1,o1,o1,o1,o1,o1,o1,o1,o1,o1,o0,o0,o0,o0] rfl (by kernel_rfl) rfl Ary (Ar rfl rfl rfl b426) (Ah (v:=(iV ((k:Int)))) h416_28) ?_
    refine Hl (i:=12) Ans rfl (by kernel_rfl) rfl Ary (Ar rfl rfl rfl b426) (Ci k Tryd.underlying46 Ov rfl r18_0 (q:=(k:Int)) rfl rfl ha424) fun v430 r430=>?_
    have ⟨g431a,g431b⟩:=At.rng r430
    refine Bg (i:=13) Apc rfl (by kernel_rfl) rfl Ary (Ar rfl rfl rfl b426) (Bc Ov rfl r430) ?_
    refine Bg (i:=14) Amv rfl (by kernel_rfl) rfl Ary (Ar rfl rfl rfl b426) (Dg (p:=a428) (q:=a424) rfl rfl) ?_
    refine Bg (i:=15) Apa rfl (by kernel_rfl) rfl Ary rfl (Bt rfl b426 (v:=(.bool (a428 != a424))) rfl) ?_
    refine Ec rfl ?_
    apply k422
    refine As (t:=a428 != a424) rfl (fun b432=>?_) (fun b432=>?_)
    ·have q432:=Mb b432
     refine w_q rfl rfl fun K433 k433=>?_
     refine l_A (.bool (false)) rfl rfl ?_
     apply Ac
     apply k433
     refine Aj (Arw (Arz (Arz (Arz (Arz (Arz (Arz (Arz l2 l3) l18) l21) l375) l379) l384) l387)) ?_
     refine Aq ?_
     refine hret _ _ _ ?_
     refine ⟨rfl,rfl,Eq.trans (b:=(.bool (false))) rfl ?_⟩
     exfalso; exact absurd (hM2 _ _ _ ha424 ha428 (by omega)) (by omega)
    have q432:=Jh b432
    refine Al ?_
    apply k421
    refine Ag rfl rfl ?_
    refine Aa rfl (Ah (v:=(iV ((k:Int)))) h416_28) ?_
    refine Aa rfl (Br (p:=(k:Int)) (q:=1) rfl rfl (z:=(((k + 1):Nat):Int)) (Bo (by first | rfl | omega | (push_cast; rfl)) (by omega) (by omega))) ?_
    refine l_A (iV ((((k + 1):Nat):Int))) rfl rfl ?_
    apply Ac
    refine ⟨_,?_,((k + 1)),rfl,rfl,rfl,rfl,h416_9,h416_24,rfl,(by omega),trivial⟩
    omega
   have q426:=Jh b426
   refine Ua (i:=6) Aqb rfl (by kernel_rfl) rfl Ary (Bl rfl rfl rfl b426) ?_
   refine Ua (i:=7) Aoa rfl (by kernel_rfl) rfl Ary (Bl rfl rfl rfl b426) ?_
   refine Ua (i:=8) Amy rfl (by kernel_rfl) rfl Ary (Bl rfl rfl rfl b426) ?_
   refine Ua (i:=9) Anr rfl (by kernel_rfl) rfl Ary (Bl rfl rfl rfl b426) ?_
   refine Ua (i:=10) [o1,o1,o1,o1,o1,o1,o1,o1,o1,o1,o1,o0,o0,o0,o0,o0] rfl (by kernel_rfl) rfl Ary (Bl rfl rfl rfl b426) ?_
   refine Xl (i:=11) [o1,o1,o1,o1,o1,o1,o1,o1,o1,o1,o1,o1,o0,o0,o0,o0] rfl (by kernel_rfl) rfl Ary (Bl rfl rfl rfl b426) ?_
   refine Xl (i:=12) Ans rfl (by kernel_rfl) rfl Ary (Bl rfl rfl rfl b426) ?_
   refine Xl (i:=13) Apc rfl (by kernel_rfl) rfl Ary (Bl rfl rfl rfl b426) ?_
   refine Xl (i:=14) Amv rfl (by kernel_rfl) rfl Ary (Bl rfl rfl rfl b426) ?_
   refine Bg (i:=15) Apa rfl (by kernel_rfl) rfl Ary rfl (Bm rfl b426 (v:=(.bool (false))) rfl) ?_
   refine Ec rfl ?_
   apply k422
   refine Cg rfl rfl ?_
   refine Al ?_
   apply k421
   refine Ag rfl rfl ?_
   refine Aa rfl (Ah (v:=(iV ((k:Int)))) h416_28) ?_
   refine Aa rfl (Br (p:=(k:Int)) (q:=1) rfl rfl (z:=(((k + 1):Nat):Int)) (Bo (by first | rfl | omega | (push_cast; rfl)) (by omega) (by omega))) ?_
   refine l_A (iV ((((k + 1):Nat):Int))) rfl rfl ?_
   apply Ac
   refine ⟨_,?_,((k + 1)),rfl,rfl,rfl,rfl,h416_9,h416_24,rfl,(by omega),trivial⟩
   omega
  have q420:=of_decide_eq_false b420
  refine Bx ?_
  apply k414
  refine w_q rfl rfl fun K434 k434=>?_
  refine Ae rfl (Bn (vs:=[]) (v:=(.bool (true))) (c_tells hg hnr) Tryd.func17 rfl rfl trivial ?_)
  refine l_A (.bool (true)) rfl rfl ?_
  apply Ac
  apply k434
  refine Aj (Arw (Arz (Arz (Arz (Arz (Arz (Arz (Arz l2 l3) l18) l21) l375) l379) l384) l387)) ?_
  refine Aq ?_
  refine hret _ _ _ ?_
  refine ⟨rfl,rfl,Eq.trans (b:=(.bool (true))) rfl ?_⟩
  rfl
end Go.Proofs.YtoefdnbaklajeaaDoor

namespace Go.Proofs.YtoefdnbaklajeaaDoor
open Go Go.WideShapes Go.ChangeShapes Go.RowKit Go.Conc
set_option maxRecDepth 100000
theorem fakeMore_lifted (os:Os) (started:os.Started) (H:Type) (enc:TypeId × Value→H):ReturnsInLeavingWide {} Tryd.checked os 4 .any (Aqs H enc Rows.fakeMoreSpec Tryd.f4) (Rows.fakeMoreSpec.post enc Tryd.prog Tryd.f4 false true false false):=by
  refine law_lift (r:=8) os started H enc Tryd.func4 rfl rfl (by kernel_rfl) (by decide) (fun ds hd=>?_)
    (ChangeSpec.witness_shaped (enc:=enc) (C:=Tryd.checked) (os:=os) (X:=fun w _=>laidMetH Tryd.prog laidL w) false (World.doorLaid Tryd.prog 2000 os) #[.agg #[.slice none 0 0,.int .i64 0,.slice none 0 0],.slice none 0 0,.agg #[.int .i64 0,.bool false],.int .u8 0] 8 rfl (World.shaped_of_RefB (by kernel_rfl) (by kernel_rfl)) (by kernel_rfl) (by kernel_rfl) (by kernel_rfl) (door_met os _)) ?_
  · match ds,hd with
    | [d1,d2,d3,d4],_=>rfl
  · intro W args ds ps hv hA hw hg
    obtain ⟨hl1,hl2⟩:=Sa hA
    match args,hl1,ds,hl2,hA with
    | [v1,v2,v3,v4],_,[d1,d2,d3,d4],_,⟨p1,q1,h1,⟨p2,q2,h2,⟨p3,q3,h3,⟨p4,q4,h4,_,_⟩,_⟩,_⟩,_⟩ =>
      obtain ⟨b1,k1⟩:=hv 0 40 v1 rfl rfl
      obtain ⟨b2,k2⟩:=hv 1 41 v2 rfl rfl
      obtain ⟨b3,k3⟩:=hv 2 43 v3 rfl rfl
      obtain ⟨b4,k4⟩:=hv 3 5 v4 rfl rfl
      obtain ⟨x1,rx1⟩:=arg_struct dec40 rfl Tryd.underlying40 k1 h1 (weights_at hw (j:=0) rfl rfl)
      obtain ⟨x2,rx2⟩:=arg_slice (dec_list Tryd.underlying41 (by kernel_rfl) (Nat.le_of_ble_eq_true (by kernel_rfl)) (by decide) dec43) Tryd.underlying41 k2 h2 (weights_at hw (j:=1) rfl rfl)
      obtain ⟨x3,rx3⟩:=arg_struct dec43 rfl Tryd.underlying43 k3 h3 (weights_at hw (j:=2) rfl rfl)
      obtain ⟨x4,rfl,lx4⟩:=arg_u8 Tryd.underlying5 k4 h4
      exact c_FakeMore hg (fun c vs h=>by cases h) rx1 rx2 rx3 lx4
theorem fakeMore_row:Rows.FakeMoreSaid :=
  OpenClaim.holds_of_wide_leaving 4 Tryd.f4 rfl rfl rfl rfl rfl rfl rfl ⟨rfl,rfl,rfl,rfl,rfl⟩ rfl rfl rfl rfl rfl (by kernel_rfl) Tryd.func4 (by kernel_rfl)
    (of_decide_eq_true (by kernel_rfl)) (by unfold Func.isWrapper; first | (rw [if_pos (by decide +kernel)]; kernel_rfl) | (rw [if_neg (by decide +kernel)]; exact ⟨rfl,rfl⟩))
    (fun os started H enc _=>fakeMore_lifted os started H enc)
theorem fakeMore_holds:Rows.FakeMoreCardSaid :=
  tied_goes .later [.funcs,.data] true (true,"5ad7a6b1106c4d9dff1ffa762e242e88c7338921ee0cf2e26581c2f653fcb6c6") false fakeMore_row (by kernel_rfl) fakeMore_row_tie rfl ⟨rfl,rfl⟩ (by kernel_rfl) rfl
    (fun f fn hf hfn=>by
      obtain rfl:f = 4:=Option.some.inj ((show Tryd.prog.funcNamed "crocus/crocuslaw08.FakeMore" = some 4 by kernel_rfl).symm.trans hf) |>.symm
      obtain rfl:fn = Tryd.f4:=(Option.some.inj (Tryd.func4.symm.trans hfn)).symm
      exact ⟨by kernel_rfl,fun j t ht=>by
        have h2:t = 40∨t = 41∨t = 43∨t = 5:=by
          match j,ht with
          | 0,h=>exact .inl (Option.some.inj h).symm
          | 1,h=>exact .inr (.inl (Option.some.inj h).symm)
          | 2,h=>exact .inr (.inr (.inl (Option.some.inj h).symm))
          | 3,h=>exact .inr (.inr (.inr ((Option.some.inj h).symm)))
        rcases h2 with rfl | rfl | rfl | rfl
        · exact (show Tryd.prog.wantsStandIn 40 = false by kernel_rfl)
        · exact (show Tryd.prog.wantsStandIn 41 = false by kernel_rfl)
        · exact (show Tryd.prog.wantsStandIn 43 = false by kernel_rfl)
        · exact (show Tryd.prog.wantsStandIn 5 = false by kernel_rfl)⟩)
    (by kernel_rfl)
end Go.Proofs.YtoefdnbaklajeaaDoor
