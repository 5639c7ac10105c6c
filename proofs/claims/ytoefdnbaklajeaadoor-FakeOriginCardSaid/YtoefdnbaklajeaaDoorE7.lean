/- Every call of crocuslaw08.FakeOrigin returns true, on every schedule, and leaves its arguments as they were: conditions: the two listed package-level variables hold what the program's text lays. -/
import Derived.Test.YtoefdnbaklajeaaDoorB5
import Derived.Carry
import Derived.ChangeArms
import Derived.ChangeSame
import Derived.ChangeVars
import Derived.Conc.Holds
import Derived.Conc.LeavingOf
import Derived.FnData
import Derived.LaidHandle
import Derived.LaidLaws
import Derived.LaidMore
import Derived.Laws.BitsAllLaws
import Derived.Laws.BitsLemmas
import Derived.OpenShut
import Derived.RowKit
import Derived.SizedLaws
import Derived.Stop.Joined
import Derived.Test.YtoefdnbaklajeaaDoorRows
import Derived.WideShapes
set_option linter.unusedVariables false
set_option linter.unusedSimpArgs false
namespace Go.Proofs.YtoefdnbaklajeaaDoor
open Go
section
variable {C:Ctx} {b:FB} {n:Nat} {l₀ rest:List Oper} {Q:Env→List Deferred→Ro→Own→Prop} {e:Env} {ds:List Deferred} {ρ:Ro} {σ:Own}
end
section
variable {P:Program} {ρ:Ro} {e:Env} {ty t t':TypeId} {x y:Operand} {v:Value}
theorem eqGuard_str {op:BinOp} {p q:ByteArray}:eqGuard op t x y (.string p) (.string q) = pure ():=by
  cases op <;> rfl
section
variable {k:IntKind} {p q:Int}
end
end
section
variable {C:Ctx} {b:FB} {n:Nat} {l₀:List Oper} {Q:Env→List Deferred→Ro→Own→Prop} {e:Env} {ds:List Deferred} {ρ ρ₀:Ro} {σ:Own} {pz:List Nat} {fuel:Nat} {listed:Array Bool}
section
variable {d i:Nat} {op:Op} {ty:TypeId} {pos:String} {af:Array Edge} {g:Option (Nat × Bool)} {v:Value} {li:List Bool}
end
end
end Go.Proofs.YtoefdnbaklajeaaDoor

namespace Go.Proofs.YtoefdnbaklajeaaDoor
open Go
section
variable {α:Type} [Dat α] {ρ ρ':Ro}
end
section
variable {P:Program} {ρ:Ro} {σ:Own} {t:TypeId}
end
section
variable {C:Ctx} {b:FB} {n:Nat} {l₀ rest:List Oper} {Q:Env→List Deferred→Ro→Own→Prop} {e:Env} {ds:List Deferred} {ρ:Ro} {σ:Own}
variable {d:Nat} {ty:TypeId} {pos:String} {af:Array Edge} {g:Option (Nat × Bool)} {x y:Operand} {v p:Value} {t:TypeId}
/-- A slice's part. -/
theorem slice_hi {α:Type} [Dat α] {xs:List α} {a:Option Addr} {len cap h:Nat} (hv:Val ρ (.slice a len cap) xs) (hh:h ≤ len):Val ρ (.slice (if cap = 0 then a else a.map (·.add (0 * Dat.k α))) (h - 0) (cap - 0)) (xs.take h):=by
  obtain ⟨a',len',cap',h1,h2,h3,h4,h5⟩:=Cs.1 hv
  cases h1
  refine Cs.2 ⟨a,h,cap,?_,by simp; omega,by omega,by omega,fun i x hx=>?_⟩
  · congr 1
    split
    · rfl
    · cases a with
      | none=>rfl
      | some ad=>simp [Addr.add]
  · rw [List.getElem?_take] at hx
    split at hx
    · exact h5 i x hx
    · cases hx
theorem y_slice_hi {P:Program} {α:Type} [Dat α] {xs:List α} {el:TypeId} {k:IntKind} {q:Int} (h:Nat) (hT:P.underlying t = some (.slice el)) (hE:GoTy P el α) (hx:Af e x = v) (hv:Val ρ v xs) (hy:Af e y = .int k q) (hq:q = (h:Int)) (hh:h ≤ xs.length) :
    ∃ w,Val ρ w (xs.take h)∧Yld P ρ e (.slice t x none (some y) none) ty w:=by
  obtain ⟨a,len,cap,h1,h2,h3,h4,h5⟩:=Cs.1 hv
  subst h1
  refine ⟨_,slice_hi hv (by omega),Mf (s:=Instr.sliceAt t (Af e x) none (some (Af e y)) none) (fun _ _ _ _=>rfl) fun ρ' σ _=>?_⟩
  rw [hx,hy,hq]
  show wpS P ρ' ((underlying t).bind _) σ _
  rw [Ad]
  refine Az hT ?_
  show wpS P ρ' ((underlying t).bind _) σ _
  rw [Ad]
  refine Az hT ?_
  simp only []
  show wpS P ρ' ((Instr.sliceBounds true len cap none (some (.int k h)) none).bind _) σ _
  have hb:Instr.sliceBounds true len cap none (some (.int k (h:Int))) none = pure (0,h,cap):=by
    show (do let m ← pure cap; let hh ← Instr.sliceBound (.int k (h:Int)) m _; let l ← pure 0; pure (l,hh,m):Sem _) = _
    have:Instr.sliceBound (.int k (h:Int)) cap .sliceAcap = pure h:=by
      show (if 0 ≤ (h:Int)∧(h:Int) ≤ cap then pure (h:Int).toNat else _) = _
      rw [if_pos (by omega)]; simp
    show (Instr.sliceBound (.int k (h:Int)) cap .sliceAcap).bind _ = _
    rw [this]; rfl
  rw [hb]
  show wpS P ρ' ((sizeOf el).bind _) σ _
  rw [Ad]
  exact Dw hE.info ⟨rfl,rfl⟩
end
end Go.Proofs.YtoefdnbaklajeaaDoor

namespace Go.Proofs.YtoefdnbaklajeaaDoor
open Go
section
variable {C:Ctx} {b:FB} {n:Nat} {l₀ rest:List Oper} {Q:Env→List Deferred→Ro→Own→Prop} {Q':Hv} {e:Env} {ds:List Deferred} {ρ:Ro} {σ:Own}
variable {d:Nat} {ty:TypeId} {pos:String} {af:Array Edge} {g:Option (Nat × Bool)} {x y:Operand} {v p:Value} {t t':TypeId}
section
variable {P:Program}
theorem y_rem {k:IntKind} {p q z:Int} (hx:Af e x = .int k p) (hy:Af e y = .int k q) (h0:q ≠ 0) (hz:p.tmod q = z):Yld P ρ e (.binOp .rem t x y t') ty (.int k z) :=
  Ju hx hy Dh (by subst hz; simp only [binOp]; rw [if_neg (by simp)]; unfold Op.intDiv; rw [if_neg h0])
theorem y_quo {k:IntKind} {p q z:Int} (hx:Af e x = .int k p) (hy:Af e y = .int k q) (h0:q ≠ 0) (hz:k.wrap (p.tdiv q) = z):Yld P ρ e (.binOp .quo t x y t') ty (.int k z) :=
  Ju hx hy Dh (by subst hz; simp only [binOp]; rw [if_neg (by simp)]; unfold Op.intDiv; rw [if_neg h0])
end
section
variable {P:Program}
theorem y_eqs {p q:ByteArray} (hx:Af e x = .string p) (hy:Af e y = .string q):Yld P ρ e (.binOp .eql t x y t') ty (.bool (p.toList == q.toList)):=Ju hx hy eqGuard_str (by simp only [binOp]; rfl)
end
theorem a_freezeAt {α:Type} [Dat α] {a:α} {v:Value} {r:Nat} {fz:Nat × Nat} {t:TypeId} {pz:List Nat} {ρ₀:Ro} {fuel:Nat} {li:List Bool} (hv:Val ρ v a)
    (h:∀ ρ',Ro.le ρ ρ'→At ρ' (.pointer (some ⟨r,0,none⟩)) a→El C b l₀.toArray Q pz (leS ρ₀) (fuel + 1) li.toArray e ds ρ' σ):El C b l₀.toArray Q pz (leS ρ₀) (fuel + 1) li.toArray e ds ρ ((r,.obj (.cells v.cells t fz)) :: σ) :=
  Ajj fun ρ' hle hr=>h ρ' hle (Ahs hv hle hr)
end
end Go.Proofs.YtoefdnbaklajeaaDoor

namespace Go.Proofs.YtoefdnbaklajeaaDoor
open Go Go.WideShapes
theorem reach_lt {n:Nat} (h:n ≤ reachBytes):n < 2 ^ 60:=by unfold reachBytes at h; omega
theorem dec_int {t:TypeId} (ht:Tryd.prog.underlying t = some (.int .i64)) (hc:Tryd.prog.cellsOf t = 1):Apq Int t :=
  ⟨hc,fun H enc W fuel cs x h _=>by
    obtain ⟨n,h1,_,h3⟩:=DataW.trod_int ht h
    refine ⟨n,h1,?_⟩
    simp [Lit.wf,IntKind.min,IntKind.max,IntKind.signed,IntKind.bits] at h3
    exact ⟨by omega,by omega⟩⟩
theorem dec_str {t:TypeId} (ht:Tryd.prog.underlying t = some .string) (hc:Tryd.prog.cellsOf t = 1):Apq ByteArray t :=
  ⟨hc,fun H enc W fuel cs x h hw=>by
    obtain ⟨s,h1,h2,_⟩:=DataW.trod_string ht h
    refine ⟨s,h1,reach_lt ?_⟩
    have:=hw s.data.toList.length (by rw [h2]; simp [DataW.weights])
    simpa using this⟩
theorem list_of {α:Type} {P:Nat→α→Prop}:∀ n,(∀ i,i < n→∃ a,P i a)→∃ xs:List α,xs.length = n∧∀ i x,xs[i]? = some x→P i x
  | 0,_=>⟨[],rfl,fun i x h=>by cases h⟩
  | n + 1,h=>by
    obtain ⟨xs,h1,h2⟩:=list_of n fun i hi=>h i (by omega)
    obtain ⟨a,ha⟩:=h n (by omega)
    refine ⟨xs ++ [a],by simp [h1],fun i x hx=>?_⟩
    rcases Nat.lt_or_ge i n with hlt | hge
    · rw [List.getElem?_append_left (by omega)] at hx; exact h2 i x hx
    · have hi:i = n:=by
        have:=(List.getElem?_eq_some_iff.1 hx).1
        simp only [List.length_append,List.length_singleton] at this; omega
      subst hi
      rw [List.getElem?_append_right (by omega),h1,Nat.sub_self] at hx
      cases hx; exact ha
theorem add_0 {a:Addr}:a.add 0 = a:=by simp [Addr.add]
theorem add_none {b off i:Nat}:(⟨b,off,none⟩:Addr).add i = ⟨b,off + i,none⟩:=by
  unfold Addr.add; split
  · rename_i h; subst h; rfl
  · rfl
theorem row_cells {W:World} {a:Addr} {k:Nat} {cs:List Value} (hk:1 ≤ k) (h:W.cells? 0 a k = some cs):∃ b off c t fz rest,a = ⟨b,off,none⟩∧W.heap[b]? = some (.cells c t fz)∧c.toList.drop off = cs ++ rest∧cs.length = k:=by
  unfold World.cells? at h
  rw [if_pos (Nat.zero_le _)] at h
  have hl:=mapM_some_length h
  rw [List.length_range] at hl
  have hg:∀ j,j < k→W.cell? (a.add j) = cs[j]?:=fun j hj=>mapM_some_get h j j (by rw [List.getElem?_range hj])
  obtain ⟨b,off,spot⟩:=a
  have h0:=hg 0 hk
  rw [add_0] at h0
  obtain ⟨v,hv⟩:∃ v,cs[0]? = some v:=⟨_,List.getElem?_eq_getElem (by omega)⟩
  rw [hv] at h0
  unfold World.cell? at h0
  simp only at h0
  cases hb:W.heap[b]? with
  | none=>rw [hb] at h0; cases h0
  | some o =>
    cases o with
    | cells c t fz =>
      rw [hb] at h0
      simp only at h0
      cases spot with
      | some s=>simp at h0
      | none =>
        refine ⟨b,off,c,t,fz,(c.toList.drop off).drop k,rfl,hb,?_,hl⟩
        have e1:(c.toList.drop off).take k = cs:=by
          apply List.ext_getElem?
          intro j
          rw [List.getElem?_take]
          by_cases hj:j < k
          · rw [if_pos hj,← hg j hj,List.getElem?_drop,add_none]
            unfold World.cell?
            simp only [hb]
            simp
          · rw [if_neg hj,List.getElem?_eq_none (by omega)]
        rw [← e1,List.take_append_drop]
    | _=>rw [hb] at h0; cases h0
theorem weightsAll_mem {H:Type} {P:Program} {e:TypeId}:∀ {ds:List (DataW H)} {d:DataW H} {n:Nat},d ∈ ds→n ∈ d.weights P e→n ∈ DataW.weightsAll P e ds
  | [],_,_,h,_=>by cases h
  | d' :: ds,d,n,h,hn=>by
    rw [DataW.weightsAll,List.mem_append]
    rcases List.mem_cons.1 h with rfl | h
    · exact .inl hn
    · exact .inr (weightsAll_mem h hn)
theorem dec_list {α:Type} [Dat α] {t e:TypeId} (ht:Tryd.prog.underlying t = some (.slice e)) (hc:Tryd.prog.cellsOf t = 1) (hb:1 ≤ Tryd.prog.bytesOf e) (hk:1 ≤ Dat.k α) (he:Apq α e):Apq (List α) t :=
  ⟨hc,fun H enc W fuel cs x h hw=>by
    rcases DataW.trod_slice ht h with ⟨h1,_⟩ | ⟨a,len,cap,Av,rest,n,_,h2,h3,_,h5,_,h6,h7,_,_⟩
    · exact ⟨[],_,h1,none,0,0,rfl,rfl,by omega,Nat.le_refl _,fun i x hx=>by cases hx⟩
    · rw [h3] at hw
      simp only [DataW.weights,ht] at hw
      have hlen:len < 2 ^ 60:=by
        have:=hw _ (List.mem_cons_self ..)
        simp only [List.length_map] at this
        refine reach_lt (Nat.le_trans ?_ this)
        rw [h6]
        exact Nat.le_trans (Nat.le_trans (Nat.le_add_right _ _) (Nat.le_of_eq (Nat.mul_one _).symm)) (Nat.mul_le_mul_left _ hb)
      obtain ⟨xs,hx1,hx2⟩:=list_of (P:=fun i (y:α)=>∃ cs,W.cells? 0 (a.add (i * Tryd.prog.cellsOf e)) (Tryd.prog.cellsOf e) = some cs∧Dat.rep (roW W) cs y) len fun i hi=>by
        have h8:=h7 i hi
        obtain ⟨y,hy⟩:∃ y,Av[i]? = some y:=⟨_,List.getElem?_eq_getElem (by omega)⟩
        rw [hy,Option.bind_eq_some_iff] at h8
        obtain ⟨ci,hc1,hc2⟩:=h8
        obtain ⟨z,hz⟩:=he.2 H enc W n ci y hc2 fun m hm=>hw m (List.mem_cons_of_mem _ (List.mem_append_left _ (weightsAll_mem (List.mem_map_of_mem (List.mem_of_getElem? hy)) hm)))
        exact ⟨z,ci,hc1,hz⟩
      refine ⟨xs,_,h2,some a,len,cap,rfl,hx1,hlen,h5,fun i y hy=>?_⟩
      obtain ⟨b',off',rfl⟩:∃ b' off',a = ⟨b',off',none⟩:=by
        have hi:=(List.getElem?_eq_some_iff.1 hy).1
        obtain ⟨y0,hy0⟩:∃ y0,xs[0]? = some y0:=⟨_,List.getElem?_eq_getElem (by omega)⟩
        obtain ⟨ci,hc1,_⟩:=hx2 0 y0 hy0
        rw [he.1,Nat.zero_mul,add_0] at hc1
        obtain ⟨b,off,_,_,_,_,h8,_⟩:=row_cells hk hc1
        exact ⟨b,off,h8⟩
      obtain ⟨ci,hc1,hc2⟩:=hx2 i y hy
      rw [he.1,add_none] at hc1
      obtain ⟨b,off,c,t',fz,rs,h8,h9,h10,_⟩:=row_cells hk hc1
      simp only [Addr.mk.injEq,and_true] at h8
      obtain ⟨rfl,rfl⟩:=h8
      exact ⟨b',off',rfl,b',_,c,t',fz,ci,rs,rfl,Vs h9,hc2,h10⟩⟩
theorem cut_at (cs:List Value) (a k:Nat):cs.drop a = (cs.drop a).take k ++ cs.drop (a + k):=by rw [← List.drop_drop,List.take_append_drop]
theorem field_at {H:Type} {enc:TypeId × Value→H} {W:World} {n:Nat} {cs:List Value} {xs:List (DataW H × List MemPlace)} {fs:Array Field} {t:TypeId} (ht:Tryd.prog.underlying t = some (.struct fs)) (hl:xs.length = fs.size) (h:∀ (i:Nat) (f:Field),fs[i]? = some f→DataW.trod enc Tryd.prog W 0 (fun _=>true) true n f.type ((cs.drop f.offset).take (Tryd.prog.cellsOf f.type)) = xs[i]?)
    (hw:∀ m ∈ (DataW.agg (xs.map (·.1)):DataW H).weights Tryd.prog t,m ≤ reachBytes) {α:Type} [Dat α] {i ft off:Nat} {f:Field} (hf:fs[i]? = some f) (h1:f.type = ft) (h2:f.offset = off) (hd:Apq α ft):∃ a:α,Dat.rep (roW W) ((cs.drop off).take (Dat.k α)) a:=by
  subst h1 h2
  have hi:=(Array.getElem?_eq_some_iff.1 hf).1
  obtain ⟨y,hy⟩:∃ y,xs[i]? = some y:=⟨_,List.getElem?_eq_getElem (by omega)⟩
  have h3:=h i f hf
  rw [hy,hd.1] at h3
  refine hd.2 H enc W n _ y h3 fun m hm=>hw m ?_
  simp only [DataW.weights,ht]
  exact DataW.weights_mem_each (j:=i) (t:=f.type) (d:=y.1) (by simp [Array.getElem?_toList,hf]) (by simp [hy]) m hm
theorem dec65:Apq Span 65:=⟨by kernel_rfl,fun H enc W fuel cs x h hw=>by
  obtain ⟨xs,n,_,rfl,hcl,hl,hf⟩:=DataW.trod_struct Tryd.underlying65 h
  rw [show Tryd.prog.cellsOf 65 = 2 from by kernel_rfl] at hcl
  obtain ⟨a0,r0⟩:=field_at (i:=0) Tryd.underlying65 hl hf hw rfl rfl (show _ = 0 from rfl) (dec_int Tryd.underlying3 (by kernel_rfl))
  obtain ⟨a1,r1⟩:=field_at (i:=1) Tryd.underlying65 hl hf hw rfl rfl (show _ = 1 from rfl) (dec_int Tryd.underlying3 (by kernel_rfl))
  refine ⟨⟨a0,a1⟩,?_⟩
  have e0:cs = cs.drop 0:=rfl
  rw [e0]
  exact ⟨(cs.drop 0).take 1,cs.drop 1,(cut_at cs 0 1).trans (by rfl),r0,(show Dat.rep (roW W) (cs.drop 1) a1 from by (have:=r1; rw [List.take_of_length_le (by rw [List.length_drop,hcl]; decide)] at this; exact this))⟩⟩
theorem dec67:Apq FField 67:=⟨by kernel_rfl,fun H enc W fuel cs x h hw=>by
  obtain ⟨xs,n,_,rfl,hcl,hl,hf⟩:=DataW.trod_struct Tryd.underlying67 h
  rw [show Tryd.prog.cellsOf 67 = 5 from by kernel_rfl] at hcl
  obtain ⟨a0,r0⟩:=field_at (i:=0) Tryd.underlying67 hl hf hw rfl rfl (show _ = 0 from rfl) (dec_str Tryd.underlying9 (by kernel_rfl))
  obtain ⟨a1,r1⟩:=field_at (i:=1) Tryd.underlying67 hl hf hw rfl rfl (show _ = 1 from rfl) (dec_int Tryd.underlying3 (by kernel_rfl))
  obtain ⟨a2,r2⟩:=field_at (i:=2) Tryd.underlying67 hl hf hw rfl rfl (show _ = 2 from rfl) dec65
  obtain ⟨a3,r3⟩:=field_at (i:=3) Tryd.underlying67 hl hf hw rfl rfl (show _ = 4 from rfl) (dec_list Tryd.underlying27 (by kernel_rfl) (Nat.le_of_ble_eq_true (by kernel_rfl)) (by decide) dec65)
  refine ⟨⟨a0,a1,a2,a3⟩,?_⟩
  have e0:cs = cs.drop 0:=rfl
  rw [e0]
  exact ⟨(cs.drop 0).take 1,cs.drop 1,(cut_at cs 0 1).trans (by rfl),r0,⟨(cs.drop 1).take 1,cs.drop 2,(cut_at cs 1 1).trans (by rfl),r1,⟨(cs.drop 2).take 2,cs.drop 4,(cut_at cs 2 2).trans (by rfl),r2,(show Dat.rep (roW W) (cs.drop 4) a3 from by (have:=r3; rw [List.take_of_length_le (by rw [List.length_drop,hcl]; decide)] at this; exact this))⟩⟩⟩⟩
theorem dec59:Apq Sale 59:=⟨by kernel_rfl,fun H enc W fuel cs x h hw=>by
  obtain ⟨xs,n,_,rfl,hcl,hl,hf⟩:=DataW.trod_struct Tryd.underlying59 h
  rw [show Tryd.prog.cellsOf 59 = 2 from by kernel_rfl] at hcl
  obtain ⟨a0,r0⟩:=field_at (i:=0) Tryd.underlying59 hl hf hw rfl rfl (show _ = 0 from rfl) (dec_int Tryd.underlying3 (by kernel_rfl))
  obtain ⟨a1,r1⟩:=field_at (i:=1) Tryd.underlying59 hl hf hw rfl rfl (show _ = 1 from rfl) (dec_list Tryd.underlying30 (by kernel_rfl) (Nat.le_of_ble_eq_true (by kernel_rfl)) (by decide) (dec_int Tryd.underlying3 (by kernel_rfl)))
  refine ⟨⟨a0,a1⟩,?_⟩
  have e0:cs = cs.drop 0:=rfl
  rw [e0]
  exact ⟨(cs.drop 0).take 1,cs.drop 1,(cut_at cs 0 1).trans (by rfl),r0,(show Dat.rep (roW W) (cs.drop 1) a1 from by (have:=r1; rw [List.take_of_length_le (by rw [List.length_drop,hcl]; decide)] at this; exact this))⟩⟩
theorem dec26:Apq Market 26:=⟨by kernel_rfl,fun H enc W fuel cs x h hw=>by
  obtain ⟨xs,n,_,rfl,hcl,hl,hf⟩:=DataW.trod_struct Tryd.underlying26 h
  rw [show Tryd.prog.cellsOf 26 = 4 from by kernel_rfl] at hcl
  obtain ⟨a0,r0⟩:=field_at (i:=0) Tryd.underlying26 hl hf hw rfl rfl (show _ = 0 from rfl) (dec_list Tryd.underlying22 (by kernel_rfl) (Nat.le_of_ble_eq_true (by kernel_rfl)) (by decide) (dec_str Tryd.underlying9 (by kernel_rfl)))
  obtain ⟨a1,r1⟩:=field_at (i:=1) Tryd.underlying26 hl hf hw rfl rfl (show _ = 1 from rfl) (dec_list Tryd.underlying22 (by kernel_rfl) (Nat.le_of_ble_eq_true (by kernel_rfl)) (by decide) (dec_str Tryd.underlying9 (by kernel_rfl)))
  obtain ⟨a2,r2⟩:=field_at (i:=2) Tryd.underlying26 hl hf hw rfl rfl (show _ = 2 from rfl) (dec_list Tryd.underlying23 (by kernel_rfl) (Nat.le_of_ble_eq_true (by kernel_rfl)) (by decide) dec67)
  obtain ⟨a3,r3⟩:=field_at (i:=3) Tryd.underlying26 hl hf hw rfl rfl (show _ = 3 from rfl) (dec_list Tryd.underlying24 (by kernel_rfl) (Nat.le_of_ble_eq_true (by kernel_rfl)) (by decide) dec59)
  refine ⟨⟨a0,a1,a2,a3⟩,?_⟩
  have e0:cs = cs.drop 0:=rfl
  rw [e0]
  exact ⟨(cs.drop 0).take 1,cs.drop 1,(cut_at cs 0 1).trans (by rfl),r0,⟨(cs.drop 1).take 1,cs.drop 2,(cut_at cs 1 1).trans (by rfl),r1,⟨(cs.drop 2).take 1,cs.drop 3,(cut_at cs 2 1).trans (by rfl),r2,(show Dat.rep (roW W) (cs.drop 3) a3 from by (have:=r3; rw [List.take_of_length_le (by rw [List.length_drop,hcl]; decide)] at this; exact this))⟩⟩⟩⟩
end Go.Proofs.YtoefdnbaklajeaaDoor

namespace Go.Proofs.YtoefdnbaklajeaaDoor
open Go Go.WideShapes Go.ChangeShapes Go.RowKit Go.Conc
section
variable {H:Type} {enc:TypeId × Value→H} {W:World} {r:Reach} {base t:Nat} {v:Value} {d:DataW H} {p:List MemPlace}
end
theorem weights_at {H:Type} {P:Program} {ts:List TypeId} {ds:List (DataW H)} (h:(DataW.weightsEach P ts ds).all (· ≤ reachBytes) = true) {j:Nat} {t:TypeId} {d:DataW H} (ht:ts[j]? = some t) (hd:ds[j]? = some d):∀ n ∈ d.weights P t,n ≤ reachBytes:=fun n hn=>by
  have:=List.all_eq_true.1 h _ (DataW.weights_mem_each ht hd n hn)
  simpa using this
end Go.Proofs.YtoefdnbaklajeaaDoor

namespace Go.Proofs.YtoefdnbaklajeaaDoor
open Go
theorem okAll_t {s:ByteArray}:(List.range s.size).all (Alz s) = true↔∀ j,j < s.size→Alz s j = true:=by simp
theorem okAll_f {s:ByteArray} {j:Nat} (h:j < s.size) (h0:Alz s j = false):(List.range s.size).all (Alz s) = false:=by
  cases hh:(List.range s.size).all (Alz s) with
  | false=>rfl
  | true=>rw [okAll_t.1 hh j h] at h0; cases h0
end Go.Proofs.YtoefdnbaklajeaaDoor

namespace Go.Proofs.YtoefdnbaklajeaaDoor
open Go
set_option maxRecDepth 100000 in
theorem c_In {mn:Bool} {X:Frame→List Frame→Ro→Own→Cy→Prop} {ρ:Ro} {σ:Own} {n low high:Int} :CallsH (CX mn X) 79 #[(iV (n)),(iV (low)),(iV (high))] ρ σ (fun w ρ' σ'=>ρ' = ρ∧σ' = σ∧w = (.bool (inR n low high))):=by
 refine Bh (n:=15) (args:=[(iV (n)),(iV (low)),(iV (high))]) [6] Tryd.func79 rfl rfl rfl rfl fun Q hret hnor=>?_
 refine w_q rfl rfl fun K1 k1=>?_
 refine l_A (.bool (false)) rfl rfl ?_
 apply Ac
 apply k1
 refine w_q rfl rfl fun K2 k2=>?_
 refine l_M (iV (low)) rfl rfl ?_
 refine l_M (iV (n)) rfl rfl ?_
 refine Aa rfl (Tx (p:=low) (q:=n) rfl rfl) ?_
 refine l_M (.bool (decide (low ≤ n))) rfl rfl ?_
 refine Cn (decide (low ≤ n)) (fun b3=>?_) (fun b3=>?_)
 ·have q3:=of_decide_eq_true b3
  refine l_M (iV (n)) (Ar rfl rfl rfl b3) rfl ?_
  refine l_M (iV (high)) (Ar rfl rfl rfl b3) rfl ?_
  refine Aa (Ar rfl rfl rfl b3) (Tx (p:=n) (q:=high) rfl rfl) ?_
  refine Aa rfl (Bt rfl b3 (v:=(.bool (decide (n ≤ high)))) rfl) ?_
  refine l_A (.bool (decide (n ≤ high))) rfl rfl ?_
  apply Ac
  apply k2
  refine Aq ?_
  refine hret _ _ _ ?_
  refine ⟨rfl,rfl,Eq.trans (b:=(.bool (decide (n ≤ high)))) rfl ?_⟩
  simp only [inR,b3,Bool.true_and,Bool.false_and,Bool.and_true,Bool.and_false,Bool.true_or,Bool.false_or,Bool.or_true,Bool.or_false,Bool.not_true,Bool.not_false]
 have q3:=of_decide_eq_false b3
 refine Ap (Bl rfl rfl rfl b3) ?_
 refine Ap (Bl rfl rfl rfl b3) ?_
 refine Ap (Bl rfl rfl rfl b3) ?_
 refine Aa rfl (Bm rfl b3 (v:=(.bool (false))) rfl) ?_
 refine l_A (.bool (false)) rfl rfl ?_
 apply Ac
 apply k2
 refine Aq ?_
 refine hret _ _ _ ?_
 refine ⟨rfl,rfl,Eq.trans (b:=(.bool (false))) rfl ?_⟩
 simp only [inR,b3,Bool.true_and,Bool.false_and,Bool.and_true,Bool.and_false,Bool.true_or,Bool.false_or,Bool.or_true,Bool.or_false,Bool.not_true,Bool.not_false]
set_option maxRecDepth 100000 in
theorem c_Inside {mn:Bool} {X:Frame→List Frame→Ro→Own→Cy→Prop} {ρ:Ro} {σ:Own} {x:Span} {vx:Value} {low high:Int} (rx:Val ρ vx x):CallsH (CX mn X) 80 #[vx,(iV (low)),(iV (high))] ρ σ (fun w ρ' σ'=>ρ' = ρ∧σ' = σ∧w = (.bool (Eg x low high))):=by
 refine Bh (n:=24) (args:=[vx,(iV (low)),(iV (high))]) [6] Tryd.func80 rfl rfl rfl rfl fun Q hret hnor=>?_
 refine w_q rfl rfl fun K1 k1=>?_
 refine Ae rfl (Eb (v:=vx) rfl fun k2=>?_)
 refine Bb (a:=x) rx fun ρ2 l2 r2=>?_
 replace rx:=Asa l2 rx
 refine l_A (.bool (false)) rfl rfl ?_
 apply Ac
 apply k1
 refine w_q rfl rfl fun K3 k3=>?_
 refine l_M (iV (low)) rfl rfl ?_
 refine Ak rfl (Ay Span.f_low Tryd.underlying65 rfl rfl ty3 (by decide) rfl r2) fun v4 r4=>?_
 have ⟨g5a,g5b⟩:=At.rng r4
 refine Aa rfl (Bc ty3 rfl r4) ?_
 refine Aa rfl (Tx (p:=low) (q:=x.low) rfl rfl) ?_
 refine l_M (.bool (decide (low ≤ x.low))) rfl rfl ?_
 refine Cn (decide (low ≤ x.low)) (fun b6=>?_) (fun b6=>?_)
 ·have q6:=of_decide_eq_true b6
  refine Ak (Ar rfl rfl rfl b6) (Ay Span.f_low Tryd.underlying65 rfl rfl ty3 (by decide) rfl r2) fun v7 r7=>?_
  have ⟨g8a,g8b⟩:=At.rng r7
  refine Aa (Ar rfl rfl rfl b6) (Bc ty3 rfl r7) ?_
  refine Ak (Ar rfl rfl rfl b6) (Ay Span.f_high Tryd.underlying65 rfl rfl ty3 (by decide) rfl r2) fun v9 r9=>?_
  have ⟨g10a,g10b⟩:=At.rng r9
  refine Aa (Ar rfl rfl rfl b6) (Bc ty3 rfl r9) ?_
  refine Aa (Ar rfl rfl rfl b6) (Tx (p:=x.low) (q:=x.high) rfl rfl) ?_
  refine Aa rfl (Bt rfl b6 (v:=(.bool (decide (x.low ≤ x.high)))) rfl) ?_
  refine l_M (.bool (decide (x.low ≤ x.high))) rfl rfl ?_
  refine Cn (decide (x.low ≤ x.high)) (fun b11=>?_) (fun b11=>?_)
  ·have q11:=of_decide_eq_true b11
   refine Ak (Ar rfl rfl rfl b11) (Ay Span.f_high Tryd.underlying65 rfl rfl ty3 (by decide) rfl r2) fun v12 r12=>?_
   have ⟨g13a,g13b⟩:=At.rng r12
   refine Aa (Ar rfl rfl rfl b11) (Bc ty3 rfl r12) ?_
   refine l_M (iV (high)) (Ar rfl rfl rfl b11) rfl ?_
   refine Aa (Ar rfl rfl rfl b11) (Tx (p:=x.high) (q:=high) rfl rfl) ?_
   refine Aa rfl (Bt rfl b11 (v:=(.bool (decide (x.high ≤ high)))) rfl) ?_
   refine l_A (.bool (decide (x.high ≤ high))) rfl rfl ?_
   apply Ac
   apply k3
   refine Aj (Arw l2) ?_
   refine Aq ?_
   refine hret _ _ _ ?_
   refine ⟨rfl,rfl,Eq.trans (b:=(.bool (decide (x.high ≤ high)))) rfl ?_⟩
   simp only [Eg,b6,b11,Bool.true_and,Bool.false_and,Bool.and_true,Bool.and_false,Bool.true_or,Bool.false_or,Bool.or_true,Bool.or_false,Bool.not_true,Bool.not_false]
  have q11:=of_decide_eq_false b11
  refine Ap (Bl rfl rfl rfl b11) ?_
  refine Ap (Bl rfl rfl rfl b11) ?_
  refine Ap (Bl rfl rfl rfl b11) ?_
  refine Ap (Bl rfl rfl rfl b11) ?_
  refine Aa rfl (Bm rfl b11 (v:=(.bool (false))) rfl) ?_
  refine l_A (.bool (false)) rfl rfl ?_
  apply Ac
  apply k3
  refine Aj (Arw l2) ?_
  refine Aq ?_
  refine hret _ _ _ ?_
  refine ⟨rfl,rfl,Eq.trans (b:=(.bool (false))) rfl ?_⟩
  simp only [Eg,b6,b11,Bool.true_and,Bool.false_and,Bool.and_true,Bool.and_false,Bool.true_or,Bool.false_or,Bool.or_true,Bool.or_false,Bool.not_true,Bool.not_false]
 have q6:=of_decide_eq_false b6
 refine Ap (Bl rfl rfl rfl b6) ?_
 refine Ap (Bl rfl rfl rfl b6) ?_
 refine Ap (Bl rfl rfl rfl b6) ?_
 refine Ap (Bl rfl rfl rfl b6) ?_
 refine Ap (Bl rfl rfl rfl b6) ?_
 refine Aa rfl (Bm rfl b6 (v:=(.bool (false))) rfl) ?_
 refine l_M (.bool (false)) rfl rfl ?_
 refine Ap (Bl rfl rfl rfl rfl) ?_
 refine Ap (Bl rfl rfl rfl rfl) ?_
 refine Ap (Bl rfl rfl rfl rfl) ?_
 refine Ap (Bl rfl rfl rfl rfl) ?_
 refine Aa rfl (Bm rfl rfl (v:=(.bool (false))) rfl) ?_
 refine l_A (.bool (false)) rfl rfl ?_
 apply Ac
 apply k3
 refine Aj (Arw l2) ?_
 refine Aq ?_
 refine hret _ _ _ ?_
 refine ⟨rfl,rfl,Eq.trans (b:=(.bool (false))) rfl ?_⟩
 simp only [Eg,b6,Bool.true_and,Bool.false_and,Bool.and_true,Bool.and_false,Bool.true_or,Bool.false_or,Bool.or_true,Bool.or_false,Bool.not_true,Bool.not_false]
set_option maxRecDepth 100000 in
theorem c_Name {mn:Bool} {X:Frame→List Frame→Ro→Own→Cy→Prop} {ρ:Ro} {σ:Own} {s:ByteArray} :CallsH (CX mn X) 78 #[(.string (s))] ρ σ (fun w ρ' σ'=>ρ' = ρ∧σ' = σ∧w = (.bool (Hi s))):=by
 refine Bh (n:=46) (args:=[(.string (s))]) [2] Tryd.func78 rfl rfl rfl rfl fun Q hret hnor=>?_
 refine w_q rfl rfl fun K1 k1=>?_
 refine l_A (.bool (false)) rfl rfl ?_
 apply Ac
 apply k1
 refine Ai fun K2 k2=>?_
 refine w_q rfl rfl fun K3 k3=>?_
 refine l_M (.string (s)) rfl rfl ?_
 refine Aa rfl (Afb Tryd.underlying9 (s:=s) rfl) ?_
 refine Ae rfl (Bn (vs:=[(iV (((s.size:Nat):Int))),(iV (1)),(iV (14))]) (v:=(.bool (inR (((s.size:Nat):Int)) 1 14))) (c_In) Tryd.func79 rfl rfl ⟨rfl,rfl,rfl,trivial⟩ ?_)
 refine Aa rfl (Ix (k:=inR (((s.size:Nat):Int)) 1 14) rfl) ?_
 refine l_M (.bool (!(inR (((s.size:Nat):Int)) 1 14))) rfl rfl ?_
 refine Cn (!(inR (((s.size:Nat):Int)) 1 14)) (fun b4=>?_) (fun b4=>?_)
 ·have b5:=not_eq_t b4
  have q5:=Ui.1 b5
  refine Ap (Bl rfl rfl rfl b4) ?_
  refine Ap (Bl rfl rfl rfl b4) ?_
  refine Ap (Bl rfl rfl rfl b4) ?_
  refine Aa rfl (Bt rfl b4 (v:=(.bool (true))) rfl) ?_
  refine l_M (.bool (true)) rfl rfl ?_
  refine Ap (Bl rfl rfl rfl rfl) ?_
  refine Ap (Bl rfl rfl rfl rfl) ?_
  refine Ap (Bl rfl rfl rfl rfl) ?_
  refine Aa rfl (Bt rfl rfl (v:=(.bool (true))) rfl) ?_
  apply Ac
  apply k3
  refine Co rfl rfl ?_
  refine w_q rfl rfl fun K6 k6=>?_
  refine l_A (.bool (false)) rfl rfl ?_
  apply Ac
  apply k6
  refine Aq ?_
  refine hret _ _ _ ?_
  refine ⟨rfl,rfl,Eq.trans (b:=(.bool (false))) rfl ?_⟩
  simp only [Hi,Pu,b4,b5,Bool.true_and,Bool.false_and,Bool.and_true,Bool.and_false,Bool.true_or,Bool.false_or,Bool.or_true,Bool.or_false,Bool.not_true,Bool.not_false]
 have b7:=not_eq_f b4
 have q7:=Ge.1 b7
 refine l_M (.string (s)) (Ar rfl rfl rfl b4) rfl ?_
 obtain ⟨c8,hc8⟩:=Alh (s:=s) (i:=0) (by omega)
 refine Aa (Ar rfl rfl rfl b4) (Aaw 0 c8 Tryd.underlying9 rfl (q:=0) rfl rfl hc8) ?_
 refine Aa (Ar rfl rfl rfl b4) (Da (p:=((c8.toNat:Nat):Int)) (q:=97) rfl rfl) ?_
 refine Aa rfl (Bm rfl b4 (v:=(.bool (decide (((c8.toNat:Nat):Int) < 97)))) rfl) ?_
 refine l_M (.bool (decide (((c8.toNat:Nat):Int) < 97))) rfl rfl ?_
 refine Cn (decide (((c8.toNat:Nat):Int) < 97)) (fun b9=>?_) (fun b9=>?_)
 ·have q9:=of_decide_eq_true b9
  refine Ap (Bl rfl rfl rfl b9) ?_
  refine Ap (Bl rfl rfl rfl b9) ?_
  refine Ap (Bl rfl rfl rfl b9) ?_
  refine Aa rfl (Bt rfl b9 (v:=(.bool (true))) rfl) ?_
  apply Ac
  apply k3
  refine Co rfl rfl ?_
  refine w_q rfl rfl fun K10 k10=>?_
  refine l_A (.bool (false)) rfl rfl ?_
  apply Ac
  apply k10
  refine Aq ?_
  refine hret _ _ _ ?_
  refine ⟨rfl,rfl,Eq.trans (b:=(.bool (false))) rfl ?_⟩
  simp only [Hi,Pu,hc8,b4,b7,b9,Bool.true_and,Bool.false_and,Bool.and_true,Bool.and_false,Bool.true_or,Bool.false_or,Bool.or_true,Bool.or_false,Bool.not_true,Bool.not_false]
 have q9:=of_decide_eq_false b9
 refine l_M (.string (s)) (Ar rfl rfl rfl b9) rfl ?_
 refine Aa (Ar rfl rfl rfl b9) (Aaw 0 c8 Tryd.underlying9 rfl (q:=0) rfl rfl hc8) ?_
 refine Aa (Ar rfl rfl rfl b9) (Gk (p:=((c8.toNat:Nat):Int)) (q:=122) rfl rfl) ?_
 refine Aa rfl (Bm rfl b9 (v:=(.bool (decide (((c8.toNat:Nat):Int) > 122)))) rfl) ?_
 apply Ac
 apply k3
 refine As (t:=decide (((c8.toNat:Nat):Int) > 122)) rfl (fun b12=>?_) (fun b12=>?_)
 ·have q12:=of_decide_eq_true b12
  refine w_q rfl rfl fun K13 k13=>?_
  refine l_A (.bool (false)) rfl rfl ?_
  apply Ac
  apply k13
  refine Aq ?_
  refine hret _ _ _ ?_
  refine ⟨rfl,rfl,Eq.trans (b:=(.bool (false))) rfl ?_⟩
  simp only [Hi,Pu,hc8,b4,b7,b9,b12,Bool.true_and,Bool.false_and,Bool.and_true,Bool.and_false,Bool.true_or,Bool.false_or,Bool.or_true,Bool.or_false,Bool.not_true,Bool.not_false]
 have q12:=of_decide_eq_false b12
 refine Al ?_
 apply k2
 refine Ai fun K14 k14=>?_
 refine w_q rfl rfl fun K15 k15=>?_
 refine l_A (iV (0)) rfl rfl ?_
 apply Ac
 apply k15
 refine Ao ?_
 refine Cc (fun mm ee dd ρ' σ'=>∃ (i:Nat),(s.size - i) = mm∧[] = dd∧ρ = ρ'∧σ = σ'∧ee 0 = (.string (s))∧ee 3 = (iV ((i:Int)))∧(i ≤ s.size)∧(∀ j,j < i→Alz s j = true)∧True) (m:=_) ⟨0,rfl,rfl,rfl,rfl,rfl,rfl,(Nat.zero_le _),(fun j h=>absurd h (Nat.not_lt_zero _)),trivial⟩ ?_
 rintro m16 e16 _ _ _ ⟨i,rfl,rfl,rfl,rfl,h16_0,h16_3,p16_0,p16_1,_⟩
 refine Ai fun K17 k17=>?_
 refine w_q rfl rfl fun K18 k18=>?_
 refine Aa rfl (Ah (v:=(iV ((i:Int)))) h16_3) ?_
 refine Aa rfl (Ah (v:=(.string (s))) h16_0) ?_
 refine Aa rfl (Afb Tryd.underlying9 (s:=s) rfl) ?_
 refine Aa rfl (Da (p:=(i:Int)) (q:=((s.size:Nat):Int)) rfl rfl) ?_
 apply Ac
 apply k18
 refine As (t:=decide ((i:Int) < ((s.size:Nat):Int))) rfl (fun b19=>?_) (fun b19=>?_)
 ·have q19:=of_decide_eq_true b19
  refine Al ?_
  apply k17
  refine Ai fun K20 k20=>?_
  refine Ao ?_
  refine w_q rfl rfl fun K21 k21=>?_
  refine Aa rfl (Ah (v:=(.string (s))) h16_0) ?_
  refine Aa rfl (Ah (v:=(iV ((i:Int)))) h16_3) ?_
  obtain ⟨c22,hc22⟩:=Alh (s:=s) (i:=i) (by omega)
  refine Aa rfl (Aaw i c22 Tryd.underlying9 rfl (q:=(i:Int)) rfl rfl hc22) ?_
  refine l_A (.int .u8 (((c22.toNat:Nat):Int))) rfl rfl ?_
  apply Ac
  apply k21
  refine w_q rfl rfl fun K23 k23=>?_
  refine l_M (.int .u8 (((c22.toNat:Nat):Int))) rfl rfl ?_
  refine Aa rfl (Da (p:=((c22.toNat:Nat):Int)) (q:=97) rfl rfl) ?_
  refine l_M (.bool (decide (((c22.toNat:Nat):Int) < 97))) rfl rfl ?_
  refine Cn (decide (((c22.toNat:Nat):Int) < 97)) (fun b24=>?_) (fun b24=>?_)
  ·have q24:=of_decide_eq_true b24
   refine Ap (Bl rfl rfl rfl b24) ?_
   refine Ap (Bl rfl rfl rfl b24) ?_
   refine Aa rfl (Bt rfl b24 (v:=(.bool (true))) rfl) ?_
   refine l_M (.bool (true)) rfl rfl ?_
   refine l_M (.int .u8 (((c22.toNat:Nat):Int))) (Ar rfl rfl rfl rfl) rfl ?_
   refine Aa (Ar rfl rfl rfl rfl) (Da (p:=((c22.toNat:Nat):Int)) (q:=48) rfl rfl) ?_
   refine l_M (.bool (decide (((c22.toNat:Nat):Int) < 48))) (Ar rfl rfl rfl rfl) rfl ?_
   refine Cn (decide (((c22.toNat:Nat):Int) < 48)) (fun b25=>?_) (fun b25=>?_)
   ·have q25:=of_decide_eq_true b25
    refine Ap (Bl rfl rfl rfl b25) ?_
    refine Ap (Bl rfl rfl rfl b25) ?_
    refine Aa (Ar rfl rfl rfl rfl) (Bt rfl b25 (v:=(.bool (true))) rfl) ?_
    refine Aa rfl (Bt rfl rfl (v:=(.bool (true))) rfl) ?_
    refine l_M (.bool (true)) rfl rfl ?_
    refine l_M (.int .u8 (((c22.toNat:Nat):Int))) (Ar rfl rfl rfl rfl) rfl ?_
    refine Aa (Ar rfl rfl rfl rfl) (Dg (p:=((c22.toNat:Nat):Int)) (q:=45) rfl rfl) ?_
    refine Aa rfl (Bt rfl rfl (v:=(.bool (((c22.toNat:Nat):Int) != 45))) rfl) ?_
    apply Ac
    apply k23
    refine As (t:=((c22.toNat:Nat):Int) != 45) rfl (fun b26=>?_) (fun b26=>?_)
    ·have q26:=Mb b26
     refine w_q rfl rfl fun K27 k27=>?_
     refine l_A (.bool (false)) rfl rfl ?_
     apply Ac
     apply k27
     refine Aq ?_
     refine hret _ _ _ ?_
     refine ⟨rfl,rfl,Eq.trans (b:=(.bool (false))) rfl ?_⟩
     have hbad:Alz s i = false:=by simp only [Alz,hc22,Pk,b4,b7,b9,b12,b19,b24,b25,b26,Bool.true_and,Bool.false_and,Bool.and_true,Bool.and_false,Bool.true_or,Bool.false_or,Bool.or_true,Bool.or_false,Bool.not_true,Bool.not_false]
     have hall:=okAll_f (by omega) hbad
     simp only [Hi,hall,b4,b7,b9,b12,b19,b24,b25,b26,Bool.true_and,Bool.false_and,Bool.and_true,Bool.and_false,Bool.true_or,Bool.false_or,Bool.or_true,Bool.or_false,Bool.not_true,Bool.not_false]
    have q26:=Jh b26
    refine Al ?_
    apply k20
    refine Ag rfl rfl ?_
    refine Aa rfl (Ah (v:=(iV ((i:Int)))) h16_3) ?_
    refine Aa rfl (Br (p:=(i:Int)) (q:=1) rfl rfl (z:=(((i + 1):Nat):Int)) (Bo (by first | rfl | omega | (push_cast; rfl)) (by omega) (by omega))) ?_
    refine l_A (iV ((((i + 1):Nat):Int))) rfl rfl ?_
    apply Ac
    refine ⟨_,?_,((i + 1)),rfl,rfl,rfl,rfl,h16_0,rfl,(by omega),(Ef p16_1 (by simp only [Alz,hc22,Pk,b4,b7,b9,b12,b19,b24,b25,b26,Bool.true_and,Bool.false_and,Bool.and_true,Bool.and_false,Bool.true_or,Bool.false_or,Bool.or_true,Bool.or_false,Bool.not_true,Bool.not_false])),trivial⟩
    omega
   have q25:=of_decide_eq_false b25
   refine l_M (.int .u8 (((c22.toNat:Nat):Int))) (Ar rfl rfl rfl b25) rfl ?_
   refine Aa (Ar rfl rfl rfl b25) (Gk (p:=((c22.toNat:Nat):Int)) (q:=57) rfl rfl) ?_
   refine Aa (Ar rfl rfl rfl rfl) (Bm rfl b25 (v:=(.bool (decide (((c22.toNat:Nat):Int) > 57)))) rfl) ?_
   refine Aa rfl (Bt rfl rfl (v:=(.bool (decide (((c22.toNat:Nat):Int) > 57)))) rfl) ?_
   refine l_M (.bool (decide (((c22.toNat:Nat):Int) > 57))) rfl rfl ?_
   refine Cn (decide (((c22.toNat:Nat):Int) > 57)) (fun b28=>?_) (fun b28=>?_)
   ·have q28:=of_decide_eq_true b28
    refine l_M (.int .u8 (((c22.toNat:Nat):Int))) (Ar rfl rfl rfl b28) rfl ?_
    refine Aa (Ar rfl rfl rfl b28) (Dg (p:=((c22.toNat:Nat):Int)) (q:=45) rfl rfl) ?_
    refine Aa rfl (Bt rfl b28 (v:=(.bool (((c22.toNat:Nat):Int) != 45))) rfl) ?_
    apply Ac
    apply k23
    refine As (t:=((c22.toNat:Nat):Int) != 45) rfl (fun b29=>?_) (fun b29=>?_)
    ·have q29:=Mb b29
     refine w_q rfl rfl fun K30 k30=>?_
     refine l_A (.bool (false)) rfl rfl ?_
     apply Ac
     apply k30
     refine Aq ?_
     refine hret _ _ _ ?_
     refine ⟨rfl,rfl,Eq.trans (b:=(.bool (false))) rfl ?_⟩
     have hbad:Alz s i = false:=by simp only [Alz,hc22,Pk,b4,b7,b9,b12,b19,b24,b25,b28,b29,Bool.true_and,Bool.false_and,Bool.and_true,Bool.and_false,Bool.true_or,Bool.false_or,Bool.or_true,Bool.or_false,Bool.not_true,Bool.not_false]
     have hall:=okAll_f (by omega) hbad
     simp only [Hi,hall,b4,b7,b9,b12,b19,b24,b25,b28,b29,Bool.true_and,Bool.false_and,Bool.and_true,Bool.and_false,Bool.true_or,Bool.false_or,Bool.or_true,Bool.or_false,Bool.not_true,Bool.not_false]
    have q29:=Jh b29
    refine Al ?_
    apply k20
    refine Ag rfl rfl ?_
    refine Aa rfl (Ah (v:=(iV ((i:Int)))) h16_3) ?_
    refine Aa rfl (Br (p:=(i:Int)) (q:=1) rfl rfl (z:=(((i + 1):Nat):Int)) (Bo (by first | rfl | omega | (push_cast; rfl)) (by omega) (by omega))) ?_
    refine l_A (iV ((((i + 1):Nat):Int))) rfl rfl ?_
    apply Ac
    refine ⟨_,?_,((i + 1)),rfl,rfl,rfl,rfl,h16_0,rfl,(by omega),(Ef p16_1 (by simp only [Alz,hc22,Pk,b4,b7,b9,b12,b19,b24,b25,b28,b29,Bool.true_and,Bool.false_and,Bool.and_true,Bool.and_false,Bool.true_or,Bool.false_or,Bool.or_true,Bool.or_false,Bool.not_true,Bool.not_false])),trivial⟩
    omega
   have q28:=of_decide_eq_false b28
   refine Ap (Bl rfl rfl rfl b28) ?_
   refine Ap (Bl rfl rfl rfl b28) ?_
   refine Aa rfl (Bm rfl b28 (v:=(.bool (false))) rfl) ?_
   apply Ac
   apply k23
   refine Cg rfl rfl ?_
   refine Al ?_
   apply k20
   refine Ag rfl rfl ?_
   refine Aa rfl (Ah (v:=(iV ((i:Int)))) h16_3) ?_
   refine Aa rfl (Br (p:=(i:Int)) (q:=1) rfl rfl (z:=(((i + 1):Nat):Int)) (Bo (by first | rfl | omega | (push_cast; rfl)) (by omega) (by omega))) ?_
   refine l_A (iV ((((i + 1):Nat):Int))) rfl rfl ?_
   apply Ac
   refine ⟨_,?_,((i + 1)),rfl,rfl,rfl,rfl,h16_0,rfl,(by omega),(Ef p16_1 (by simp only [Alz,hc22,Pk,b4,b7,b9,b12,b19,b24,b25,b28,Bool.true_and,Bool.false_and,Bool.and_true,Bool.and_false,Bool.true_or,Bool.false_or,Bool.or_true,Bool.or_false,Bool.not_true,Bool.not_false])),trivial⟩
   omega
  have q24:=of_decide_eq_false b24
  refine l_M (.int .u8 (((c22.toNat:Nat):Int))) (Ar rfl rfl rfl b24) rfl ?_
  refine Aa (Ar rfl rfl rfl b24) (Gk (p:=((c22.toNat:Nat):Int)) (q:=122) rfl rfl) ?_
  refine Aa rfl (Bm rfl b24 (v:=(.bool (decide (((c22.toNat:Nat):Int) > 122)))) rfl) ?_
  refine l_M (.bool (decide (((c22.toNat:Nat):Int) > 122))) rfl rfl ?_
  refine Cn (decide (((c22.toNat:Nat):Int) > 122)) (fun b31=>?_) (fun b31=>?_)
  ·have q31:=of_decide_eq_true b31
   refine l_M (.int .u8 (((c22.toNat:Nat):Int))) (Ar rfl rfl rfl b31) rfl ?_
   refine Aa (Ar rfl rfl rfl b31) (Da (p:=((c22.toNat:Nat):Int)) (q:=48) rfl rfl) ?_
   refine l_M (.bool (decide (((c22.toNat:Nat):Int) < 48))) (Ar rfl rfl rfl b31) rfl ?_
   refine Cn (decide (((c22.toNat:Nat):Int) < 48)) (fun b32=>?_) (fun b32=>?_)
   ·have q32:=of_decide_eq_true b32
    refine Ap (Bl rfl rfl rfl b32) ?_
    refine Ap (Bl rfl rfl rfl b32) ?_
    refine Aa (Ar rfl rfl rfl b31) (Bt rfl b32 (v:=(.bool (true))) rfl) ?_
    refine Aa rfl (Bt rfl b31 (v:=(.bool (true))) rfl) ?_
    refine l_M (.bool (true)) rfl rfl ?_
    refine l_M (.int .u8 (((c22.toNat:Nat):Int))) (Ar rfl rfl rfl rfl) rfl ?_
    refine Aa (Ar rfl rfl rfl rfl) (Dg (p:=((c22.toNat:Nat):Int)) (q:=45) rfl rfl) ?_
    refine Aa rfl (Bt rfl rfl (v:=(.bool (((c22.toNat:Nat):Int) != 45))) rfl) ?_
    apply Ac
    apply k23
    refine As (t:=((c22.toNat:Nat):Int) != 45) rfl (fun b33=>?_) (fun b33=>?_)
    ·have q33:=Mb b33
     refine w_q rfl rfl fun K34 k34=>?_
     refine l_A (.bool (false)) rfl rfl ?_
     apply Ac
     apply k34
     refine Aq ?_
     refine hret _ _ _ ?_
     refine ⟨rfl,rfl,Eq.trans (b:=(.bool (false))) rfl ?_⟩
     have hbad:Alz s i = false:=by simp only [Alz,hc22,Pk,b4,b7,b9,b12,b19,b24,b31,b32,b33,Bool.true_and,Bool.false_and,Bool.and_true,Bool.and_false,Bool.true_or,Bool.false_or,Bool.or_true,Bool.or_false,Bool.not_true,Bool.not_false]
     have hall:=okAll_f (by omega) hbad
     simp only [Hi,hall,b4,b7,b9,b12,b19,b24,b31,b32,b33,Bool.true_and,Bool.false_and,Bool.and_true,Bool.and_false,Bool.true_or,Bool.false_or,Bool.or_true,Bool.or_false,Bool.not_true,Bool.not_false]
    have q33:=Jh b33
    refine Al ?_
    apply k20
    refine Ag rfl rfl ?_
    refine Aa rfl (Ah (v:=(iV ((i:Int)))) h16_3) ?_
    refine Aa rfl (Br (p:=(i:Int)) (q:=1) rfl rfl (z:=(((i + 1):Nat):Int)) (Bo (by first | rfl | omega | (push_cast; rfl)) (by omega) (by omega))) ?_
    refine l_A (iV ((((i + 1):Nat):Int))) rfl rfl ?_
    apply Ac
    refine ⟨_,?_,((i + 1)),rfl,rfl,rfl,rfl,h16_0,rfl,(by omega),(Ef p16_1 (by simp only [Alz,hc22,Pk,b4,b7,b9,b12,b19,b24,b31,b32,b33,Bool.true_and,Bool.false_and,Bool.and_true,Bool.and_false,Bool.true_or,Bool.false_or,Bool.or_true,Bool.or_false,Bool.not_true,Bool.not_false])),trivial⟩
    omega
   have q32:=of_decide_eq_false b32
   refine l_M (.int .u8 (((c22.toNat:Nat):Int))) (Ar rfl rfl rfl b32) rfl ?_
   refine Aa (Ar rfl rfl rfl b32) (Gk (p:=((c22.toNat:Nat):Int)) (q:=57) rfl rfl) ?_
   refine Aa (Ar rfl rfl rfl b31) (Bm rfl b32 (v:=(.bool (decide (((c22.toNat:Nat):Int) > 57)))) rfl) ?_
   refine Aa rfl (Bt rfl b31 (v:=(.bool (decide (((c22.toNat:Nat):Int) > 57)))) rfl) ?_
   refine l_M (.bool (decide (((c22.toNat:Nat):Int) > 57))) rfl rfl ?_
   refine Cn (decide (((c22.toNat:Nat):Int) > 57)) (fun b35=>?_) (fun b35=>?_)
   ·have q35:=of_decide_eq_true b35
    refine l_M (.int .u8 (((c22.toNat:Nat):Int))) (Ar rfl rfl rfl b35) rfl ?_
    refine Aa (Ar rfl rfl rfl b35) (Dg (p:=((c22.toNat:Nat):Int)) (q:=45) rfl rfl) ?_
    refine Aa rfl (Bt rfl b35 (v:=(.bool (((c22.toNat:Nat):Int) != 45))) rfl) ?_
    apply Ac
    apply k23
    refine As (t:=((c22.toNat:Nat):Int) != 45) rfl (fun b36=>?_) (fun b36=>?_)
    ·have q36:=Mb b36
     refine w_q rfl rfl fun K37 k37=>?_
     refine l_A (.bool (false)) rfl rfl ?_
     apply Ac
     apply k37
     refine Aq ?_
     refine hret _ _ _ ?_
     refine ⟨rfl,rfl,Eq.trans (b:=(.bool (false))) rfl ?_⟩
     have hbad:Alz s i = false:=by simp only [Alz,hc22,Pk,b4,b7,b9,b12,b19,b24,b31,b32,b35,b36,Bool.true_and,Bool.false_and,Bool.and_true,Bool.and_false,Bool.true_or,Bool.false_or,Bool.or_true,Bool.or_false,Bool.not_true,Bool.not_false]
     have hall:=okAll_f (by omega) hbad
     simp only [Hi,hall,b4,b7,b9,b12,b19,b24,b31,b32,b35,b36,Bool.true_and,Bool.false_and,Bool.and_true,Bool.and_false,Bool.true_or,Bool.false_or,Bool.or_true,Bool.or_false,Bool.not_true,Bool.not_false]
    have q36:=Jh b36
    refine Al ?_
    apply k20
    refine Ag rfl rfl ?_
    refine Aa rfl (Ah (v:=(iV ((i:Int)))) h16_3) ?_
    refine Aa rfl (Br (p:=(i:Int)) (q:=1) rfl rfl (z:=(((i + 1):Nat):Int)) (Bo (by first | rfl | omega | (push_cast; rfl)) (by omega) (by omega))) ?_
    refine l_A (iV ((((i + 1):Nat):Int))) rfl rfl ?_
    apply Ac
    refine ⟨_,?_,((i + 1)),rfl,rfl,rfl,rfl,h16_0,rfl,(by omega),(Ef p16_1 (by simp only [Alz,hc22,Pk,b4,b7,b9,b12,b19,b24,b31,b32,b35,b36,Bool.true_and,Bool.false_and,Bool.and_true,Bool.and_false,Bool.true_or,Bool.false_or,Bool.or_true,Bool.or_false,Bool.not_true,Bool.not_false])),trivial⟩
    omega
   have q35:=of_decide_eq_false b35
   refine Ap (Bl rfl rfl rfl b35) ?_
   refine Ap (Bl rfl rfl rfl b35) ?_
   refine Aa rfl (Bm rfl b35 (v:=(.bool (false))) rfl) ?_
   apply Ac
   apply k23
   refine Cg rfl rfl ?_
   refine Al ?_
   apply k20
   refine Ag rfl rfl ?_
   refine Aa rfl (Ah (v:=(iV ((i:Int)))) h16_3) ?_
   refine Aa rfl (Br (p:=(i:Int)) (q:=1) rfl rfl (z:=(((i + 1):Nat):Int)) (Bo (by first | rfl | omega | (push_cast; rfl)) (by omega) (by omega))) ?_
   refine l_A (iV ((((i + 1):Nat):Int))) rfl rfl ?_
   apply Ac
   refine ⟨_,?_,((i + 1)),rfl,rfl,rfl,rfl,h16_0,rfl,(by omega),(Ef p16_1 (by simp only [Alz,hc22,Pk,b4,b7,b9,b12,b19,b24,b31,b32,b35,Bool.true_and,Bool.false_and,Bool.and_true,Bool.and_false,Bool.true_or,Bool.false_or,Bool.or_true,Bool.or_false,Bool.not_true,Bool.not_false])),trivial⟩
   omega
  have q31:=of_decide_eq_false b31
  refine Ap (Bl rfl rfl rfl b31) ?_
  refine Ap (Bl rfl rfl rfl b31) ?_
  refine Ap (Bl rfl rfl rfl b31) ?_
  refine Ap (Jf rfl rfl rfl) ?_
  refine Ap (Jf rfl rfl rfl) ?_
  refine Ap (Bl rfl rfl rfl b31) ?_
  refine Aa rfl (Bm rfl b31 (v:=(.bool (false))) rfl) ?_
  refine l_M (.bool (false)) rfl rfl ?_
  refine Ap (Bl rfl rfl rfl rfl) ?_
  refine Ap (Bl rfl rfl rfl rfl) ?_
  refine Aa rfl (Bm rfl rfl (v:=(.bool (false))) rfl) ?_
  apply Ac
  apply k23
  refine Cg rfl rfl ?_
  refine Al ?_
  apply k20
  refine Ag rfl rfl ?_
  refine Aa rfl (Ah (v:=(iV ((i:Int)))) h16_3) ?_
  refine Aa rfl (Br (p:=(i:Int)) (q:=1) rfl rfl (z:=(((i + 1):Nat):Int)) (Bo (by first | rfl | omega | (push_cast; rfl)) (by omega) (by omega))) ?_
  refine l_A (iV ((((i + 1):Nat):Int))) rfl rfl ?_
  apply Ac
  refine ⟨_,?_,((i + 1)),rfl,rfl,rfl,rfl,h16_0,rfl,(by omega),(Ef p16_1 (by simp only [Alz,hc22,Pk,b4,b7,b9,b12,b19,b24,b31,Bool.true_and,Bool.false_and,Bool.and_true,Bool.and_false,Bool.true_or,Bool.false_or,Bool.or_true,Bool.or_false,Bool.not_true,Bool.not_false])),trivial⟩
  omega
 have q19:=of_decide_eq_false b19
 refine Bx ?_
 apply k14
 refine w_q rfl rfl fun K38 k38=>?_
 refine l_A (.bool (true)) rfl rfl ?_
 apply Ac
 apply k38
 refine Aq ?_
 refine hret _ _ _ ?_
 refine ⟨rfl,rfl,Eq.trans (b:=(.bool (true))) rfl ?_⟩
 have hall:=okAll_t.2 fun j hj=>p16_1 j (by omega)
 simp only [Hi,Pu,hall,hc8,b4,b7,b9,b12,b19,Bool.true_and,Bool.false_and,Bool.and_true,Bool.and_false,Bool.true_or,Bool.false_or,Bool.or_true,Bool.or_false,Bool.not_true,Bool.not_false]
set_option maxRecDepth 100000 in
theorem c_Find {mn:Bool} {X:Frame→List Frame→Ro→Own→Cy→Prop} {ρ:Ro} {σ:Own} {l:List ByteArray} {vl:Value} {s:ByteArray} (rl:Val ρ vl l):CallsH (CX mn X) 114 #[vl,(.string (s))] ρ σ (fun w ρ' σ'=>ρ' = ρ∧σ' = σ∧w = (iV (Ajt l s))):=by
 refine Bh (n:=19) (args:=[vl,(.string (s))]) [4] Tryd.func114 rfl rfl rfl rfl fun Q hret hnor=>?_
 refine w_q rfl rfl fun K1 k1=>?_
 refine l_A (iV (0)) rfl rfl ?_
 apply Ac
 apply k1
 refine Ai fun K2 k2=>?_
 refine w_q rfl rfl fun K3 k3=>?_
 refine l_A (iV (0)) rfl rfl ?_
 apply Ac
 apply k3
 refine Ao ?_
 refine Cc (fun mm ee dd ρ' σ'=>∃ (i:Nat),(l.length - i) = mm∧[] = dd∧ρ = ρ'∧σ = σ'∧ee 0 = vl∧ee 1 = (.string (s))∧ee 5 = (iV ((i:Int)))∧(i ≤ l.length)∧(∀ j,j < i→Xp l s j = false)∧True) (m:=_) ⟨0,rfl,rfl,rfl,rfl,rfl,rfl,rfl,(Nat.zero_le _),(fun j h=>absurd h (Nat.not_lt_zero _)),trivial⟩ ?_
 rintro m4 e4 _ _ _ ⟨i,rfl,rfl,rfl,rfl,h4_0,h4_1,h4_5,p4_0,p4_1,_⟩
 refine Ai fun K5 k5=>?_
 refine w_q rfl rfl fun K6 k6=>?_
 refine Aa rfl (Ah (v:=(iV ((i:Int)))) h4_5) ?_
 refine Aa rfl (Ah (v:=vl) h4_0) ?_
 have g7:=Val.len rl
 refine Aa rfl (Ce (el:=9) Tryd.underlying22 rfl rl) ?_
 refine Aa rfl (Da (p:=(i:Int)) (q:=((l.length:Nat):Int)) rfl rfl) ?_
 apply Ac
 apply k6
 refine As (t:=decide ((i:Int) < ((l.length:Nat):Int))) rfl (fun b8=>?_) (fun b8=>?_)
 ·have q8:=of_decide_eq_true b8
  refine Al ?_
  apply k5
  refine Ai fun K9 k9=>?_
  refine Ao ?_
  refine w_q rfl rfl fun K10 k10=>?_
  refine Aa rfl (Ah (v:=vl) h4_0) ?_
  refine Aa rfl (Ah (v:=(iV ((i:Int)))) h4_5) ?_
  obtain ⟨a12,ha12⟩:=Ed (xs:=l) (i:=i) (by omega)
  refine Ak rfl (Ci i Tryd.underlying22 ty9 rfl rl (q:=(i:Int)) rfl rfl ha12) fun v11 r11=>?_
  have g13:=At.slen r11
  refine Aa rfl (Oz ty9 rfl r11) ?_
  refine Aa rfl (Ah (v:=(.string (s))) h4_1) ?_
  refine Aa rfl (y_eqs (p:=a12) (q:=s) rfl rfl) ?_
  apply Ac
  apply k10
  refine As (t:=(a12).toList == (s).toList) rfl (fun b14=>?_) (fun b14=>?_)
  ·have q14:=Jo b14
   refine w_q rfl rfl fun K15 k15=>?_
   refine Aa rfl (Ah (v:=(iV ((i:Int)))) h4_5) ?_
   refine l_A (iV ((i:Int))) rfl rfl ?_
   apply Ac
   apply k15
   refine Aq ?_
   refine hret _ _ _ ?_
   refine ⟨rfl,rfl,Eq.trans (b:=(iV ((i:Int)))) rfl ?_⟩
   have hi:=Fg (n:=l.length) p4_1 (by omega) (show Xp l s i = true by simp only [Xp,ha12,b8,b14])
   simp only [Ajt,hi]
  have q14:=La b14
  refine Al ?_
  apply k9
  refine Ag rfl rfl ?_
  refine Aa rfl (Ah (v:=(iV ((i:Int)))) h4_5) ?_
  refine Aa rfl (Br (p:=(i:Int)) (q:=1) rfl rfl (z:=(((i + 1):Nat):Int)) (Bo (by first | rfl | omega | (push_cast; rfl)) (by omega) (by omega))) ?_
  refine l_A (iV ((((i + 1):Nat):Int))) rfl rfl ?_
  apply Ac
  refine ⟨_,?_,((i + 1)),rfl,rfl,rfl,rfl,h4_0,h4_1,rfl,(by omega),(Ef p4_1 (by simp only [Xp,ha12,b8,b14])),trivial⟩
  omega
 have q8:=of_decide_eq_false b8
 refine Bx ?_
 apply k2
 refine w_q rfl rfl fun K16 k16=>?_
 refine l_A (iV ((-1))) rfl rfl ?_
 apply Ac
 apply k16
 refine Aq ?_
 refine hret _ _ _ ?_
 refine ⟨rfl,rfl,Eq.trans (b:=(iV ((-1)))) rfl ?_⟩
 have hn:=Ep (n:=l.length) fun j hj=>p4_1 j (by omega)
 simp only [Ajt,hn]
set_option maxRecDepth 100000 in
theorem c_names {mn:Bool} {X:Frame→List Frame→Ro→Own→Cy→Prop} {ρ:Ro} {σ:Own} {l:List ByteArray} {vl:Value} {most:Int} (rl:Val ρ vl l):CallsH (CX mn X) 77 #[vl,(iV (most))] ρ σ (fun w ρ' σ'=>ρ' = ρ∧σ' = σ∧w = (iV (Dd l most))):=by
 refine Bh (n:=31) (args:=[vl,(iV (most))]) [4] Tryd.func77 rfl rfl rfl rfl fun Q hret hnor=>?_
 refine w_q rfl rfl fun K1 k1=>?_
 refine l_A (iV (0)) rfl rfl ?_
 apply Ac
 apply k1
 refine Ai fun K2 k2=>?_
 refine w_q rfl rfl fun K3 k3=>?_
 refine l_M vl rfl rfl ?_
 have g4:=Val.len rl
 refine Aa rfl (Ce (el:=9) Tryd.underlying22 rfl rl) ?_
 refine l_M (iV (most)) rfl rfl ?_
 refine Aa rfl (Gk (p:=((l.length:Nat):Int)) (q:=most) rfl rfl) ?_
 apply Ac
 apply k3
 refine As (t:=decide (((l.length:Nat):Int) > most)) rfl (fun b5=>?_) (fun b5=>?_)
 ·have q5:=of_decide_eq_true b5
  refine w_q rfl rfl fun K6 k6=>?_
  refine l_A (iV (2)) rfl rfl ?_
  apply Ac
  apply k6
  refine Aq ?_
  refine hret _ _ _ ?_
  refine ⟨rfl,rfl,Eq.trans (b:=(iV (2))) rfl ?_⟩
  rw [Dd,if_pos (by omega)]
 have q5:=of_decide_eq_false b5
 refine Al ?_
 apply k2
 refine Ai fun K7 k7=>?_
 refine w_q rfl rfl fun K8 k8=>?_
 refine l_A (iV (0)) rfl rfl ?_
 apply Ac
 apply k8
 refine Ao ?_
 refine Cc (fun mm ee dd ρ' σ'=>∃ (i:Nat),(l.length - i) = mm∧[] = dd∧ρ = ρ'∧σ = σ'∧ee 0 = vl∧ee 5 = (iV ((i:Int)))∧(i ≤ l.length)∧(∀ j,j < i→Nh l j = 0)∧True) (m:=_) ⟨0,rfl,rfl,rfl,rfl,rfl,rfl,(Nat.zero_le _),(fun j h=>absurd h (Nat.not_lt_zero _)),trivial⟩ ?_
 rintro m9 e9 _ _ _ ⟨i,rfl,rfl,rfl,rfl,h9_0,h9_5,p9_0,p9_1,_⟩
 refine Ai fun K10 k10=>?_
 refine w_q rfl rfl fun K11 k11=>?_
 refine Aa rfl (Ah (v:=(iV ((i:Int)))) h9_5) ?_
 refine Aa rfl (Ah (v:=vl) h9_0) ?_
 have g12:=Val.len rl
 refine Aa rfl (Ce (el:=9) Tryd.underlying22 rfl rl) ?_
 refine Aa rfl (Da (p:=(i:Int)) (q:=((l.length:Nat):Int)) rfl rfl) ?_
 apply Ac
 apply k11
 refine As (t:=decide ((i:Int) < ((l.length:Nat):Int))) rfl (fun b13=>?_) (fun b13=>?_)
 ·have q13:=of_decide_eq_true b13
  refine Al ?_
  apply k10
  refine Ai fun K14 k14=>?_
  refine Ao ?_
  refine Ai fun K15 k15=>?_
  refine w_q rfl rfl fun K16 k16=>?_
  refine Aa rfl (Ah (v:=vl) h9_0) ?_
  refine Aa rfl (Ah (v:=(iV ((i:Int)))) h9_5) ?_
  obtain ⟨a18,ha18⟩:=Ed (xs:=l) (i:=i) (by omega)
  refine Ak rfl (Ci i Tryd.underlying22 ty9 rfl rl (q:=(i:Int)) rfl rfl ha18) fun v17 r17=>?_
  have g19:=At.slen r17
  refine Aa rfl (Oz ty9 rfl r17) ?_
  refine Ae rfl (Bn (vs:=[(.string (a18))]) (v:=(.bool (Hi a18))) (c_Name) Tryd.func78 rfl rfl ⟨rfl,trivial⟩ ?_)
  refine Aa rfl (Ix (k:=Hi a18) rfl) ?_
  apply Ac
  apply k16
  refine As (t:=!(Hi a18)) rfl (fun b20=>?_) (fun b20=>?_)
  ·have b21:=not_eq_t b20
   refine w_q rfl rfl fun K22 k22=>?_
   refine l_A (iV (4)) rfl rfl ?_
   apply Ac
   apply k22
   refine Aq ?_
   refine hret _ _ _ ?_
   refine ⟨rfl,rfl,Eq.trans (b:=(iV (4))) rfl ?_⟩
   have hf:Nh l i = 4:=by simp only [Nh,ha18,b5,b13,b20,b21]; first | rfl | omega | (simp; done) | (simp; omega)
   rw [Dd,if_neg (by omega),Db p9_1 (by omega) hf (by omega)]
  have b23:=not_eq_f b20
  refine Al ?_
  apply k15
  refine Ai fun K24 k24=>?_
  refine Dc [0,1,2,3,4,5,6,7,8] (by kernel_rfl) rfl rfl ?_
  refine Be (i:=0) Aov rfl (by kernel_rfl) rfl Ary rfl (Ah (v:=vl) h9_0) ?_
  refine Be (i:=1) Aof rfl (by kernel_rfl) rfl Ary rfl (Ah (v:=(iV ((i:Int)))) h9_5) ?_
  refine Cd (i:=2) Apd rfl (by kernel_rfl) rfl Ary rfl (y_slice_hi i Tryd.underlying22 ty9 rfl rl (q:=(i:Int)) rfl rfl (by omega)) fun v25 r25=>?_
  refine Be (i:=3) Anf rfl (by kernel_rfl) rfl Ary rfl (Ah (v:=vl) h9_0) ?_
  refine Bg (i:=4) Aon rfl (by kernel_rfl) rfl Ary rfl (Ah (v:=(iV ((i:Int)))) h9_5) ?_
  refine Hl (i:=5) Aob rfl (by kernel_rfl) rfl Ary rfl (Ci i Tryd.underlying22 ty9 rfl rl (q:=(i:Int)) rfl rfl ha18) fun v26 r26=>?_
  have g27:=At.slen r26
  refine Bg (i:=6) Aow rfl (by kernel_rfl) rfl Ary rfl (Oz ty9 rfl r26) ?_
  refine Dj (i:=7) Anz rfl (by kernel_rfl) rfl rfl (Bn (vs:=[v25,(.string (a18))]) (v:=(iV (Ajt ((l.take i)) a18))) (c_Find r25) Tryd.func114 rfl rfl ⟨rfl,rfl,trivial⟩ ⟨Ary,?_⟩)
  refine Bg (i:=8) Anb rfl (by kernel_rfl) rfl Ary rfl (Uv (p:=Ajt ((l.take i)) a18) (q:=0) rfl rfl) ?_
  refine Ec rfl ?_
  apply k24
  refine As (t:=decide (Ajt ((l.take i)) a18 ≥ 0)) rfl (fun b28=>?_) (fun b28=>?_)
  ·have q28:=of_decide_eq_true b28
   refine w_q rfl rfl fun K29 k29=>?_
   refine l_A (iV (5)) rfl rfl ?_
   apply Ac
   apply k29
   refine Aq ?_
   refine hret _ _ _ ?_
   refine ⟨rfl,rfl,Eq.trans (b:=(iV (5))) rfl ?_⟩
   have hf:Nh l i = 5:=by simp only [Nh,ha18,b5,b13,b20,b23,b28]; first | rfl | omega | (simp; done) | (simp; omega)
   rw [Dd,if_neg (by omega),Db p9_1 (by omega) hf (by omega)]
  have q28:=of_decide_eq_false b28
  refine Al ?_
  apply k14
  refine Ag rfl rfl ?_
  refine Aa rfl (Ah (v:=(iV ((i:Int)))) h9_5) ?_
  refine Aa rfl (Br (p:=(i:Int)) (q:=1) rfl rfl (z:=(((i + 1):Nat):Int)) (Bo (by first | rfl | omega | (push_cast; rfl)) (by omega) (by omega))) ?_
  refine l_A (iV ((((i + 1):Nat):Int))) rfl rfl ?_
  apply Ac
  refine ⟨_,?_,((i + 1)),rfl,rfl,rfl,rfl,h9_0,rfl,(by omega),(Ef p9_1 (by simp only [Nh,ha18,b5,b13,b20,b23,b28]; first | rfl | omega | (simp; done) | (simp; omega))),trivial⟩
  omega
 have q13:=of_decide_eq_false b13
 refine Bx ?_
 apply k7
 refine w_q rfl rfl fun K30 k30=>?_
 refine l_A (iV (0)) rfl rfl ?_
 apply Ac
 apply k30
 refine Aq ?_
 refine hret _ _ _ ?_
 refine ⟨rfl,rfl,Eq.trans (b:=(iV (0))) rfl ?_⟩
 rw [Dd,if_neg (by omega),Fb fun j hj=>p9_1 j (by omega)]
end Go.Proofs.YtoefdnbaklajeaaDoor

namespace Go.Proofs.YtoefdnbaklajeaaDoor
open Go
set_option maxRecDepth 100000 in
theorem c_checkSpans {mn:Bool} {X:Frame→List Frame→Ro→Own→Cy→Prop} {ρ:Ro} {σ:Own} {l:List Span} {vl:Value} {many:Int} (rl:Val ρ vl l):CallsH (CX mn X) 81 #[vl,(iV (many))] ρ σ (fun w ρ' σ'=>ρ' = ρ∧σ' = σ∧w = (iV (Fl l many))):=by
 refine Bh (n:=22) (args:=[vl,(iV (many))]) [4] Tryd.func81 rfl rfl rfl rfl fun Q hret hnor=>?_
 refine w_q rfl rfl fun K1 k1=>?_
 refine l_A (iV (0)) rfl rfl ?_
 apply Ac
 apply k1
 refine Ai fun K2 k2=>?_
 refine w_q rfl rfl fun K3 k3=>?_
 refine l_M vl rfl rfl ?_
 have g4:=Val.len rl
 refine Aa rfl (Ce (el:=65) Tryd.underlying27 rfl rl) ?_
 refine l_M (iV (many)) rfl rfl ?_
 refine Aa rfl (Dg (p:=((l.length:Nat):Int)) (q:=many) rfl rfl) ?_
 apply Ac
 apply k3
 refine As (t:=((l.length:Nat):Int) != many) rfl (fun b5=>?_) (fun b5=>?_)
 ·have q5:=Mb b5
  refine w_q rfl rfl fun K6 k6=>?_
  refine l_A (iV (2)) rfl rfl ?_
  apply Ac
  apply k6
  refine Aq ?_
  refine hret _ _ _ ?_
  refine ⟨rfl,rfl,Eq.trans (b:=(iV (2))) rfl ?_⟩
  rw [Fl,if_neg (by omega)]
 have q5:=Jh b5
 refine Al ?_
 apply k2
 refine Ai fun K7 k7=>?_
 refine w_q rfl rfl fun K8 k8=>?_
 refine l_A (iV (0)) rfl rfl ?_
 apply Ac
 apply k8
 refine Ao ?_
 refine Cc (fun mm ee dd ρ' σ'=>∃ (i:Nat),(l.length - i) = mm∧[] = dd∧ρ = ρ'∧σ = σ'∧ee 0 = vl∧ee 5 = (iV ((i:Int)))∧(i ≤ l.length)∧(∀ j,j < i→Nj l j = 0)∧True) (m:=_) ⟨0,rfl,rfl,rfl,rfl,rfl,rfl,(Nat.zero_le _),(fun j h=>absurd h (Nat.not_lt_zero _)),trivial⟩ ?_
 rintro m9 e9 _ _ _ ⟨i,rfl,rfl,rfl,rfl,h9_0,h9_5,p9_0,p9_1,_⟩
 refine Ai fun K10 k10=>?_
 refine w_q rfl rfl fun K11 k11=>?_
 refine Aa rfl (Ah (v:=(iV ((i:Int)))) h9_5) ?_
 refine Aa rfl (Ah (v:=vl) h9_0) ?_
 have g12:=Val.len rl
 refine Aa rfl (Ce (el:=65) Tryd.underlying27 rfl rl) ?_
 refine Aa rfl (Da (p:=(i:Int)) (q:=((l.length:Nat):Int)) rfl rfl) ?_
 apply Ac
 apply k11
 refine As (t:=decide ((i:Int) < ((l.length:Nat):Int))) rfl (fun b13=>?_) (fun b13=>?_)
 ·have q13:=of_decide_eq_true b13
  refine Al ?_
  apply k10
  refine Ai fun K14 k14=>?_
  refine Ao ?_
  refine w_q rfl rfl fun K15 k15=>?_
  refine Aa rfl (Ah (v:=vl) h9_0) ?_
  refine Aa rfl (Ah (v:=(iV ((i:Int)))) h9_5) ?_
  obtain ⟨a17,ha17⟩:=Ed (xs:=l) (i:=i) (by omega)
  refine Ak rfl (Ci i Tryd.underlying27 Mx rfl rl (q:=(i:Int)) rfl rfl ha17) fun v16 r16=>?_
  refine Ak rfl (Ax Mx rfl r16) fun v18 r18=>?_
  refine Ae rfl (Bn (vs:=[v18,(iV (0)),(iV (1000))]) (v:=(.bool (Eg a17 0 1000))) (c_Inside r18) Tryd.func80 rfl rfl ⟨rfl,rfl,rfl,trivial⟩ ?_)
  refine Aa rfl (Ix (k:=Eg a17 0 1000) rfl) ?_
  apply Ac
  apply k15
  refine As (t:=!(Eg a17 0 1000)) rfl (fun b19=>?_) (fun b19=>?_)
  ·have b20:=not_eq_t b19
   refine w_q rfl rfl fun K21 k21=>?_
   refine l_A (iV (1)) rfl rfl ?_
   apply Ac
   apply k21
   refine Aq ?_
   refine hret _ _ _ ?_
   refine ⟨rfl,rfl,Eq.trans (b:=(iV (1))) rfl ?_⟩
   have hf:Nj l i = 1:=by simp [Nj,ha17,b5,b13,b19,b20,q5,q13]
   rw [Fl,if_pos (by omega),Db p9_1 (by omega) hf (by omega)]
  have b22:=not_eq_f b19
  refine Al ?_
  apply k14
  refine Ag rfl rfl ?_
  refine Aa rfl (Ah (v:=(iV ((i:Int)))) h9_5) ?_
  refine Aa rfl (Br (p:=(i:Int)) (q:=1) rfl rfl (z:=(((i + 1):Nat):Int)) (Bo (by first | rfl | omega | (push_cast; rfl)) (by omega) (by omega))) ?_
  refine l_A (iV ((((i + 1):Nat):Int))) rfl rfl ?_
  apply Ac
  refine ⟨_,?_,((i + 1)),rfl,rfl,rfl,rfl,h9_0,rfl,(by omega),(Ef p9_1 (by simp [Nj,ha17,b5,b13,b19,b22,q5,q13])),trivial⟩
  omega
 have q13:=of_decide_eq_false b13
 refine Bx ?_
 apply k7
 refine w_q rfl rfl fun K23 k23=>?_
 refine l_A (iV (0)) rfl rfl ?_
 apply Ac
 apply k23
 refine Aq ?_
 refine hret _ _ _ ?_
 refine ⟨rfl,rfl,Eq.trans (b:=(iV (0))) rfl ?_⟩
 rw [Fl,if_pos (by omega),Fb fun j hj=>p9_1 j (by omega)]
set_option maxRecDepth 100000 in
theorem c_CheckMarket {mn:Bool} {X:Frame→List Frame→Ro→Own→Cy→Prop} {ρ:Ro} {σ:Own} {m:Market} {vm:Value} (rm:Val ρ vm m):CallsH (CX mn X) 28 #[vm] ρ σ (fun w ρ' σ'=>ρ' = ρ∧σ' = σ∧w = (iV (Ch m))):=by
 refine Bh (n:=137) (args:=[vm]) [2] Tryd.func28 rfl rfl rfl rfl fun Q hret hnor=>?_
 refine w_q rfl rfl fun K1 k1=>?_
 refine Ae rfl (Eb (v:=vm) rfl fun k2=>?_)
 refine Bb (a:=m) rm fun ρ2 l2 r2=>?_
 replace rm:=Asa l2 rm
 refine l_A (iV (0)) rfl rfl ?_
 apply Ac
 apply k1
 refine Ai fun K3 k3=>?_
 refine w_q rfl rfl fun K4 k4=>?_
 refine Ak rfl (Ay Market.f_houses Tryd.underlying26 rfl rfl Hu (by decide) rfl r2) fun v5 r5=>?_
 refine Ak rfl (Ax Hu rfl r5) fun v6 r6=>?_
 refine Ae rfl (Bn (vs:=[v6,(iV (5))]) (v:=(iV (Dd m.houses 5))) (c_names r6) Tryd.func77 rfl rfl ⟨rfl,rfl,trivial⟩ ?_)
 refine l_A (iV (Dd m.houses 5)) rfl rfl ?_
 apply Ac
 apply k4
 refine w_q rfl rfl fun K7 k7=>?_
 refine l_M (iV (Dd m.houses 5)) rfl rfl ?_
 refine Aa rfl (Dg (p:=Dd m.houses 5) (q:=0) rfl rfl) ?_
 apply Ac
 apply k7
 refine As (t:=Dd m.houses 5 != 0) rfl (fun b8=>?_) (fun b8=>?_)
 ·have q8:=Mb b8
  refine w_q rfl rfl fun K9 k9=>?_
  refine l_M (iV (Dd m.houses 5)) rfl rfl ?_
  refine l_A (iV (Dd m.houses 5)) rfl rfl ?_
  apply Ac
  apply k9
  refine Aj (Arw l2) ?_
  refine Aq ?_
  refine hret _ _ _ ?_
  refine ⟨rfl,rfl,Eq.trans (b:=(iV (Dd m.houses 5))) rfl ?_⟩
  rw [Ch,Rx q8]
 have q8:=Jh b8
 refine Al ?_
 apply k3
 refine Ai fun K10 k10=>?_
 refine w_q rfl rfl fun K11 k11=>?_
 refine Ak rfl (Ay Market.f_marks Tryd.underlying26 rfl rfl Hu (by decide) rfl r2) fun v12 r12=>?_
 refine Ak rfl (Ax Hu rfl r12) fun v13 r13=>?_
 refine Ae rfl (Bn (vs:=[v13,(iV (4))]) (v:=(iV (Dd m.marks 4))) (c_names r13) Tryd.func77 rfl rfl ⟨rfl,rfl,trivial⟩ ?_)
 refine l_A (iV (Dd m.marks 4)) rfl rfl ?_
 apply Ac
 apply k11
 refine w_q rfl rfl fun K14 k14=>?_
 refine l_M (iV (Dd m.marks 4)) rfl rfl ?_
 refine Aa rfl (Dg (p:=Dd m.marks 4) (q:=0) rfl rfl) ?_
 apply Ac
 apply k14
 refine As (t:=Dd m.marks 4 != 0) rfl (fun b15=>?_) (fun b15=>?_)
 ·have q15:=Mb b15
  refine w_q rfl rfl fun K16 k16=>?_
  refine l_M (iV (Dd m.marks 4)) rfl rfl ?_
  refine l_A (iV (Dd m.marks 4)) rfl rfl ?_
  apply Ac
  apply k16
  refine Aj (Arw l2) ?_
  refine Aq ?_
  refine hret _ _ _ ?_
  refine ⟨rfl,rfl,Eq.trans (b:=(iV (Dd m.marks 4))) rfl ?_⟩
  rw [Ch,Gt q8,Rx q15]
 have q15:=Jh b15
 refine Al ?_
 apply k10
 refine Ai fun K17 k17=>?_
 refine w_q rfl rfl fun K18 k18=>?_
 refine Ak rfl (Ay Market.f_fields Tryd.underlying26 rfl rfl Se (by decide) rfl r2) fun v19 r19=>?_
 refine Ak rfl (Ax Se rfl r19) fun v20 r20=>?_
 have g21:=Val.len r20
 refine Aa rfl (Ce (el:=67) Tryd.underlying23 rfl r20) ?_
 refine Aa rfl (Gk (p:=((m.fields.length:Nat):Int)) (q:=6) rfl rfl) ?_
 apply Ac
 apply k18
 refine As (t:=decide (((m.fields.length:Nat):Int) > 6)) rfl (fun b22=>?_) (fun b22=>?_)
 ·have q22:=of_decide_eq_true b22
  refine w_q rfl rfl fun K23 k23=>?_
  refine l_A (iV (2)) rfl rfl ?_
  apply Ac
  apply k23
  refine Aj (Arw l2) ?_
  refine Aq ?_
  refine hret _ _ _ ?_
  refine ⟨rfl,rfl,Eq.trans (b:=(iV (2))) rfl ?_⟩
  rw [Ch,Gt q8,Gt q15,Ew,if_pos q22,Rx (by omega)]
 have q22:=of_decide_eq_false b22
 refine Al ?_
 apply k17
 refine Ai fun K24 k24=>?_
 refine w_q rfl rfl fun K25 k25=>?_
 refine l_A (iV (0)) rfl rfl ?_
 apply Ac
 apply k25
 refine Ao ?_
 refine Cc (fun mm ee dd ρ' σ'=>∃ (i:Nat),(m.fields.length - i) = mm∧[] = dd∧ρ2 = ρ'∧σ = σ'∧ee 1 = (.pointer (some ⟨k2,0,none⟩))∧ee 5 = (iV ((i:Int)))∧(i ≤ m.fields.length)∧(∀ j,j < i→fieldAt m j = 0)∧True) (m:=_) ⟨0,rfl,rfl,rfl,rfl,rfl,rfl,(Nat.zero_le _),(fun j h=>absurd h (Nat.not_lt_zero _)),trivial⟩ ?_
 rintro m26 e26 _ _ _ ⟨i,rfl,rfl,rfl,rfl,h26_1,h26_5,p26_0,p26_1,_⟩
 refine Ai fun K27 k27=>?_
 refine w_q rfl rfl fun K28 k28=>?_
 refine Aa rfl (Ah (v:=(iV ((i:Int)))) h26_5) ?_
 refine Ak rfl (Ay Market.f_fields Tryd.underlying26 rfl rfl Se (by decide) h26_1 r2) fun v29 r29=>?_
 refine Ak rfl (Ax Se rfl r29) fun v30 r30=>?_
 have g31:=Val.len r30
 refine Aa rfl (Ce (el:=67) Tryd.underlying23 rfl r30) ?_
 refine Aa rfl (Da (p:=(i:Int)) (q:=((m.fields.length:Nat):Int)) rfl rfl) ?_
 apply Ac
 apply k28
 refine As (t:=decide ((i:Int) < ((m.fields.length:Nat):Int))) rfl (fun b32=>?_) (fun b32=>?_)
 ·have q32:=of_decide_eq_true b32
  refine Al ?_
  apply k27
  refine Ai fun K33 k33=>?_
  refine Ao ?_
  refine w_q rfl rfl fun K34 k34=>?_
  refine Ak rfl (Ay Market.f_fields Tryd.underlying26 rfl rfl Se (by decide) h26_1 r2) fun v35 r35=>?_
  refine Ak rfl (Ax Se rfl r35) fun v36 r36=>?_
  refine Aa rfl (Ah (v:=(iV ((i:Int)))) h26_5) ?_
  obtain ⟨a38,ha38⟩:=Ed (xs:=m.fields) (i:=i) (by omega)
  refine Ak rfl (Ci i Tryd.underlying23 Ln rfl r36 (q:=(i:Int)) rfl rfl ha38) fun v37 r37=>?_
  refine Ak rfl (Ax Ln rfl r37) fun v39 r39=>?_
  refine Ae rfl (Ct Xg fun k40=>?_)
  refine Cx rfl (Du (v:=v39) (a:=a38) (c:=Zu) Ln rfl rfl r39 rfl ?_)
  refine Bb (a:=a38) r39 fun ρ41 l41 r41=>?_
  replace r2:=Arv l41 r2
  replace r35:=Arv l41 r35
  replace r36:=Asa l41 r36
  replace r37:=Arv l41 r37
  replace r39:=Asa l41 r39
  apply Ac
  apply k34
  refine Ai fun K42 k42=>?_
  refine w_q rfl rfl fun K43 k43=>?_
  refine Ak rfl (Ay FField.f_name Tryd.underlying67 rfl rfl ty9 (by decide) rfl r41) fun v44 r44=>?_
  have g45:=At.slen r44
  refine Aa rfl (Oz ty9 rfl r44) ?_
  refine Ae rfl (Bn (vs:=[(.string (a38.name))]) (v:=(.bool (Hi a38.name))) (c_Name) Tryd.func78 rfl rfl ⟨rfl,trivial⟩ ?_)
  refine Aa rfl (Ix (k:=Hi a38.name) rfl) ?_
  apply Ac
  apply k43
  refine As (t:=!(Hi a38.name)) rfl (fun b46=>?_) (fun b46=>?_)
  ·have b47:=not_eq_t b46
   refine w_q rfl rfl fun K48 k48=>?_
   refine l_A (iV (4)) rfl rfl ?_
   apply Ac
   apply k48
   refine Aj (Arw (Arz l2 l41)) ?_
   refine Aq ?_
   refine hret _ _ _ ?_
   refine ⟨rfl,rfl,Eq.trans (b:=(iV (4))) rfl ?_⟩
   have hf:fieldAt m i = 4:=by simp [fieldAt,ha38,b8,b15,b22,b32,b46,b47,q8,q15,q22,q32]
   have hF:Ew m = 4:=by rw [Ew,if_neg (by omega),Db p26_1 (by omega) hf (by omega)]
   rw [Ch,Gt q8,Gt q15,hF,Rx (by omega)]
  have b49:=not_eq_f b46
  refine Al ?_
  apply k42
  refine Ai fun K50 k50=>?_
  refine w_q rfl rfl fun K51 k51=>?_
  refine l_A (iV (0)) rfl rfl ?_
  apply Ac
  apply k51
  refine Ao ?_
  refine Cc (fun mm ee dd ρ' σ'=>∃ (k:Nat),(i - k) = mm∧[] = dd∧ρ41 = ρ'∧σ = σ'∧ee 1 = (.pointer (some ⟨k2,0,none⟩))∧ee 5 = (iV ((i:Int)))∧ee 6 = (.pointer (some ⟨k40,0,none⟩))∧ee 7 = (iV ((k:Int)))∧(k ≤ i)∧(∀ j,j < k→Mq m a38.name j = false)∧True) (m:=_) ⟨0,rfl,rfl,rfl,rfl,h26_1,h26_5,rfl,rfl,(Nat.zero_le _),(fun j h=>absurd h (Nat.not_lt_zero _)),trivial⟩ ?_
  rintro m52 e52 _ _ _ ⟨k,rfl,rfl,rfl,rfl,h52_1,h52_5,h52_6,h52_7,p52_0,p52_1,_⟩
  refine Ai fun K53 k53=>?_
  refine w_q rfl rfl fun K54 k54=>?_
  refine Aa rfl (Ah (v:=(iV ((k:Int)))) h52_7) ?_
  refine Aa rfl (Ah (v:=(iV ((i:Int)))) h52_5) ?_
  refine Aa rfl (Da (p:=(k:Int)) (q:=(i:Int)) rfl rfl) ?_
  apply Ac
  apply k54
  refine As (t:=decide ((k:Int) < (i:Int))) rfl (fun b55=>?_) (fun b55=>?_)
  ·have q55:=of_decide_eq_true b55
   refine Al ?_
   apply k53
   refine Ai fun K56 k56=>?_
   refine Ao ?_
   refine Ai fun K57 k57=>?_
   refine Dc [0,1,2,3,4,5,6,7,8] (by kernel_rfl) rfl rfl ?_
   refine Cd (i:=0) Aov rfl (by kernel_rfl) rfl Ary rfl (Ay Market.f_fields Tryd.underlying26 rfl rfl Se (by decide) h52_1 r2) fun v58 r58=>?_
   refine Cd (i:=1) Aof rfl (by kernel_rfl) rfl Ary rfl (Ax Se rfl r58) fun v59 r59=>?_
   refine Be (i:=2) Apd rfl (by kernel_rfl) rfl Ary rfl (Ah (v:=(iV ((k:Int)))) h52_7) ?_
   obtain ⟨a61,ha61⟩:=Ed (xs:=m.fields) (i:=k) (by omega)
   refine Cd (i:=3) Anf rfl (by kernel_rfl) rfl Ary rfl (Ci k Tryd.underlying23 Ln rfl r59 (q:=(k:Int)) rfl rfl ha61) fun v60 r60=>?_
   refine Cd (i:=4) Aon rfl (by kernel_rfl) rfl Ary rfl (Ay FField.f_name Tryd.underlying67 rfl rfl ty9 (by decide) rfl r60) fun v62 r62=>?_
   have g63:=At.slen r62
   refine Be (i:=5) Aob rfl (by kernel_rfl) rfl Ary rfl (Oz ty9 rfl r62) ?_
   refine Hl (i:=6) Aow rfl (by kernel_rfl) rfl Ary rfl (Ay FField.f_name Tryd.underlying67 rfl rfl ty9 (by decide) h52_6 r41) fun v64 r64=>?_
   have g65:=At.slen r64
   refine Bg (i:=7) Anz rfl (by kernel_rfl) rfl Ary rfl (Oz ty9 rfl r64) ?_
   refine Bg (i:=8) Anb rfl (by kernel_rfl) rfl Ary rfl (y_eqs (p:=a61.name) (q:=a38.name) rfl rfl) ?_
   refine Ec rfl ?_
   apply k57
   refine As (t:=(a61.name).toList == (a38.name).toList) rfl (fun b66=>?_) (fun b66=>?_)
   ·have q66:=Jo b66
    refine w_q rfl rfl fun K67 k67=>?_
    refine l_A (iV (5)) rfl rfl ?_
    apply Ac
    apply k67
    refine Aj (Arw (Arz l2 l41)) ?_
    refine Aq ?_
    refine hret _ _ _ ?_
    refine ⟨rfl,rfl,Eq.trans (b:=(iV (5))) rfl ?_⟩
    have hi:Cl i (Mq m a38.name) = some k:=Fg p52_1 (by omega) (by simp [Mq,ha61,b8,b15,b22,b32,b46,b49,b55,b66,q8,q15,q22,q32,q55,q66])
    have hf:fieldAt m i = 5:=by simp [fieldAt,ha38,hi,b8,b15,b22,b32,b46,b49,b55,b66,q8,q15,q22,q32,q55,q66]
    have hF:Ew m = 5:=by rw [Ew,if_neg (by omega),Db p26_1 (by omega) hf (by omega)]
    rw [Ch,Gt q8,Gt q15,hF,Rx (by omega)]
   have q66:=La b66
   refine Al ?_
   apply k56
   refine Ag rfl rfl ?_
   refine Aa rfl (Ah (v:=(iV ((k:Int)))) h52_7) ?_
   refine Aa rfl (Br (p:=(k:Int)) (q:=1) rfl rfl (z:=(((k + 1):Nat):Int)) (Bo (by first | rfl | omega | (push_cast; rfl)) (by omega) (by omega))) ?_
   refine l_A (iV ((((k + 1):Nat):Int))) rfl rfl ?_
   apply Ac
   refine ⟨_,?_,((k + 1)),rfl,rfl,rfl,rfl,h52_1,h52_5,h52_6,rfl,(by omega),(Ef p52_1 (by simp [Mq,ha61,b8,b15,b22,b32,b46,b49,b55,b66,q8,q15,q22,q32,q55,q66])),trivial⟩
   omega
  have q55:=of_decide_eq_false b55
  refine Bx ?_
  apply k50
  refine Ai fun K68 k68=>?_
  refine w_q rfl rfl fun K69 k69=>?_
  refine Ak rfl (Ay FField.f_house Tryd.underlying67 rfl rfl ty3 (by decide) h52_6 r41) fun v70 r70=>?_
  have ⟨g71a,g71b⟩:=At.rng r70
  refine Aa rfl (Bc ty3 rfl r70) ?_
  refine Ak rfl (Ay Market.f_houses Tryd.underlying26 rfl rfl Hu (by decide) h52_1 r2) fun v72 r72=>?_
  refine Ak rfl (Ax Hu rfl r72) fun v73 r73=>?_
  have g74:=Val.len r73
  refine Aa rfl (Ce (el:=9) Tryd.underlying22 rfl r73) ?_
  refine Aa rfl (Oq (p:=((m.houses.length:Nat):Int)) (q:=1) rfl rfl (z:=(((m.houses.length:Nat):Int) - 1)) (Bo (by first | rfl | omega | (push_cast; rfl)) (by omega) (by omega))) ?_
  refine Ae rfl (Bn (vs:=[(iV (a38.house)),(iV (0)),(iV ((((m.houses.length:Nat):Int) - 1)))]) (v:=(.bool (inR a38.house 0 ((((m.houses.length:Nat):Int) - 1))))) (c_In) Tryd.func79 rfl rfl ⟨rfl,rfl,rfl,trivial⟩ ?_)
  refine Aa rfl (Ix (k:=inR a38.house 0 ((((m.houses.length:Nat):Int) - 1))) rfl) ?_
  apply Ac
  apply k69
  refine As (t:=!(inR a38.house 0 ((((m.houses.length:Nat):Int) - 1)))) rfl (fun b75=>?_) (fun b75=>?_)
  ·have b76:=not_eq_t b75
   have q76:=Ui.1 b76
   refine w_q rfl rfl fun K77 k77=>?_
   refine l_A (iV (6)) rfl rfl ?_
   apply Ac
   apply k77
   refine Aj (Arw (Arz l2 l41)) ?_
   refine Aq ?_
   refine hret _ _ _ ?_
   refine ⟨rfl,rfl,Eq.trans (b:=(iV (6))) rfl ?_⟩
   have hi:Cl i (Mq m a38.name) = none:=Ep fun j hj=>p52_1 j (by omega)
   have hf:fieldAt m i = 6:=by simp [fieldAt,ha38,hi,b8,b15,b22,b32,b46,b49,b55,b75,b76,q8,q15,q22,q32,q55,q76]
   have hF:Ew m = 6:=by rw [Ew,if_neg (by omega),Db p26_1 (by omega) hf (by omega)]
   rw [Ch,Gt q8,Gt q15,hF,Rx (by omega)]
  have b78:=not_eq_f b75
  have q78:=Ge.1 b78
  refine Al ?_
  apply k68
  refine Ai fun K79 k79=>?_
  refine w_q rfl rfl fun K80 k80=>?_
  refine Ak rfl (Ay FField.f_grows Tryd.underlying67 rfl rfl Mx (by decide) h52_6 r41) fun v81 r81=>?_
  refine Ak rfl (Ax Mx rfl r81) fun v82 r82=>?_
  refine Ae rfl (Bn (vs:=[v82,(iV (0)),(iV (1000000))]) (v:=(.bool (Eg a38.grows 0 1000000))) (c_Inside r82) Tryd.func80 rfl rfl ⟨rfl,rfl,rfl,trivial⟩ ?_)
  refine Aa rfl (Ix (k:=Eg a38.grows 0 1000000) rfl) ?_
  apply Ac
  apply k80
  refine As (t:=!(Eg a38.grows 0 1000000)) rfl (fun b83=>?_) (fun b83=>?_)
  ·have b84:=not_eq_t b83
   refine w_q rfl rfl fun K85 k85=>?_
   refine l_A (iV (1)) rfl rfl ?_
   apply Ac
   apply k85
   refine Aj (Arw (Arz l2 l41)) ?_
   refine Aq ?_
   refine hret _ _ _ ?_
   refine ⟨rfl,rfl,Eq.trans (b:=(iV (1))) rfl ?_⟩
   have hi:Cl i (Mq m a38.name) = none:=Ep fun j hj=>p52_1 j (by omega)
   have hf:fieldAt m i = 1:=by simp [fieldAt,ha38,hi,b8,b15,b22,b32,b46,b49,b55,b75,b78,b83,b84,q8,q15,q22,q32,q55,q78]
   have hF:Ew m = 1:=by rw [Ew,if_neg (by omega),Db p26_1 (by omega) hf (by omega)]
   rw [Ch,Gt q8,Gt q15,hF,Rx (by omega)]
  have b86:=not_eq_f b83
  refine Al ?_
  apply k79
  refine w_q rfl rfl fun K87 k87=>?_
  refine Ak rfl (Ay FField.f_marks Tryd.underlying67 rfl rfl Ty (by decide) h52_6 r41) fun v88 r88=>?_
  refine Ak rfl (Ax Ty rfl r88) fun v89 r89=>?_
  refine Ak rfl (Ay Market.f_marks Tryd.underlying26 rfl rfl Hu (by decide) h52_1 r2) fun v90 r90=>?_
  refine Ak rfl (Ax Hu rfl r90) fun v91 r91=>?_
  have g92:=Val.len r91
  refine Aa rfl (Ce (el:=9) Tryd.underlying22 rfl r91) ?_
  refine Ae rfl (Bn (vs:=[v89,(iV (((m.marks.length:Nat):Int)))]) (v:=(iV (Fl a38.marks (((m.marks.length:Nat):Int))))) (c_checkSpans r89) Tryd.func81 rfl rfl ⟨rfl,rfl,trivial⟩ ?_)
  refine l_A (iV (Fl a38.marks (((m.marks.length:Nat):Int)))) rfl rfl ?_
  apply Ac
  apply k87
  refine w_q rfl rfl fun K93 k93=>?_
  refine l_M (iV (Fl a38.marks (((m.marks.length:Nat):Int)))) rfl rfl ?_
  refine Aa rfl (Dg (p:=Fl a38.marks (((m.marks.length:Nat):Int))) (q:=0) rfl rfl) ?_
  apply Ac
  apply k93
  refine As (t:=Fl a38.marks (((m.marks.length:Nat):Int)) != 0) rfl (fun b94=>?_) (fun b94=>?_)
  ·have q94:=Mb b94
   refine w_q rfl rfl fun K95 k95=>?_
   refine l_M (iV (Fl a38.marks (((m.marks.length:Nat):Int)))) rfl rfl ?_
   refine l_A (iV (Fl a38.marks (((m.marks.length:Nat):Int)))) rfl rfl ?_
   apply Ac
   apply k95
   refine Aj (Arw (Arz l2 l41)) ?_
   refine Aq ?_
   refine hret _ _ _ ?_
   refine ⟨rfl,rfl,Eq.trans (b:=(iV (Fl a38.marks (((m.marks.length:Nat):Int))))) rfl ?_⟩
   have hi:Cl i (Mq m a38.name) = none:=Ep fun j hj=>p52_1 j (by omega)
   have hf:fieldAt m i = Fl a38.marks (((m.marks.length:Nat):Int)):=by simp [fieldAt,ha38,hi,b8,b15,b22,b32,b46,b49,b55,b75,b78,b83,b86,b94,q8,q15,q22,q32,q55,q78,q94]
   have hF:Ew m = Fl a38.marks (((m.marks.length:Nat):Int)):=by rw [Ew,if_neg (by omega),Db p26_1 (by omega) hf q94]
   rw [Ch,Gt q8,Gt q15,hF,Rx q94]
  have q94:=Jh b94
  refine Al ?_
  apply k33
  refine Ag rfl rfl ?_
  refine Aa rfl (Ah (v:=(iV ((i:Int)))) h52_5) ?_
  refine Aa rfl (Br (p:=(i:Int)) (q:=1) rfl rfl (z:=(((i + 1):Nat):Int)) (Bo (by first | rfl | omega | (push_cast; rfl)) (by omega) (by omega))) ?_
  refine l_A (iV ((((i + 1):Nat):Int))) rfl rfl ?_
  refine Bj (Arw l41) ?_
  apply Ac
  refine ⟨_,?_,((i + 1)),rfl,rfl,rfl,rfl,h52_1,rfl,(by omega),(Ef p26_1 (by
  have hi:Cl i (Mq m a38.name) = none:=Ep fun j hj=>p52_1 j (by omega)
  simp [fieldAt,ha38,hi,b8,b15,b22,b32,b46,b49,b55,b75,b78,b83,b86,b94,q8,q15,q22,q32,q55,q78,q94])),trivial⟩
  omega
 have q32:=of_decide_eq_false b32
 refine Bx ?_
 apply k24
 refine Ai fun K96 k96=>?_
 refine w_q rfl rfl fun K97 k97=>?_
 refine Ak rfl (Ay Market.f_sales Tryd.underlying26 rfl rfl Pq (by decide) h26_1 r2) fun v98 r98=>?_
 refine Ak rfl (Ax Pq rfl r98) fun v99 r99=>?_
 have g100:=Val.len r99
 refine Aa rfl (Ce (el:=59) Tryd.underlying24 rfl r99) ?_
 refine Aa rfl (Gk (p:=((m.sales.length:Nat):Int)) (q:=8) rfl rfl) ?_
 apply Ac
 apply k97
 refine As (t:=decide (((m.sales.length:Nat):Int) > 8)) rfl (fun b101=>?_) (fun b101=>?_)
 ·have q101:=of_decide_eq_true b101
  refine w_q rfl rfl fun K102 k102=>?_
  refine l_A (iV (2)) rfl rfl ?_
  apply Ac
  apply k102
  refine Aj (Arw l2) ?_
  refine Aq ?_
  refine hret _ _ _ ?_
  refine ⟨rfl,rfl,Eq.trans (b:=(iV (2))) rfl ?_⟩
  have hF:Ew m = 0:=by rw [Ew,if_neg (by omega),Fb fun j hj=>p26_1 j (by omega)]
  rw [Ch,Gt q8,Gt q15,Gt hF,Jb,if_pos (by omega)]
 have q101:=of_decide_eq_false b101
 refine Al ?_
 apply k96
 refine Ai fun K103 k103=>?_
 refine w_q rfl rfl fun K104 k104=>?_
 refine l_A (iV (0)) rfl rfl ?_
 apply Ac
 apply k104
 refine Ao ?_
 refine Cc (fun mm ee dd ρ' σ'=>∃ (s:Nat),(m.sales.length - s) = mm∧[] = dd∧ρ2 = ρ'∧σ = σ'∧ee 1 = (.pointer (some ⟨k2,0,none⟩))∧ee 9 = (iV ((s:Int)))∧(s ≤ m.sales.length)∧(∀ j,j < s→Iz m j = 0)∧True) (m:=_) ⟨0,rfl,rfl,rfl,rfl,h26_1,rfl,(Nat.zero_le _),(fun j h=>absurd h (Nat.not_lt_zero _)),trivial⟩ ?_
 rintro m105 e105 _ _ _ ⟨s,rfl,rfl,rfl,rfl,h105_1,h105_9,p105_0,p105_1,_⟩
 refine Ai fun K106 k106=>?_
 refine w_q rfl rfl fun K107 k107=>?_
 refine Aa rfl (Ah (v:=(iV ((s:Int)))) h105_9) ?_
 refine Ak rfl (Ay Market.f_sales Tryd.underlying26 rfl rfl Pq (by decide) h105_1 r2) fun v108 r108=>?_
 refine Ak rfl (Ax Pq rfl r108) fun v109 r109=>?_
 have g110:=Val.len r109
 refine Aa rfl (Ce (el:=59) Tryd.underlying24 rfl r109) ?_
 refine Aa rfl (Da (p:=(s:Int)) (q:=((m.sales.length:Nat):Int)) rfl rfl) ?_
 apply Ac
 apply k107
 refine As (t:=decide ((s:Int) < ((m.sales.length:Nat):Int))) rfl (fun b111=>?_) (fun b111=>?_)
 ·have q111:=of_decide_eq_true b111
  refine Al ?_
  apply k106
  refine Ai fun K112 k112=>?_
  refine Ao ?_
  refine w_q rfl rfl fun K113 k113=>?_
  refine Ak rfl (Ay Market.f_sales Tryd.underlying26 rfl rfl Pq (by decide) h105_1 r2) fun v114 r114=>?_
  refine Ak rfl (Ax Pq rfl r114) fun v115 r115=>?_
  refine Aa rfl (Ah (v:=(iV ((s:Int)))) h105_9) ?_
  obtain ⟨a117,ha117⟩:=Ed (xs:=m.sales) (i:=s) (by omega)
  refine Ak rfl (Ci s Tryd.underlying24 Su rfl r115 (q:=(s:Int)) rfl rfl ha117) fun v116 r116=>?_
  refine Ak rfl (Ax Su rfl r116) fun v118 r118=>?_
  refine Ae rfl (Ct Aeo fun k119=>?_)
  refine Cx rfl (Du (v:=v118) (a:=a117) (c:=Ags) Su rfl rfl r118 rfl ?_)
  refine Bb (a:=a117) r118 fun ρ120 l120 r120=>?_
  replace r2:=Arv l120 r2
  replace r114:=Arv l120 r114
  replace r115:=Asa l120 r115
  replace r116:=Arv l120 r116
  replace r118:=Asa l120 r118
  apply Ac
  apply k113
  refine Ai fun K121 k121=>?_
  refine w_q rfl rfl fun K122 k122=>?_
  refine Ak rfl (Ay Sale.f_grams Tryd.underlying59 rfl rfl ty3 (by decide) rfl r120) fun v123 r123=>?_
  have ⟨g124a,g124b⟩:=At.rng r123
  refine Aa rfl (Bc ty3 rfl r123) ?_
  refine Ae rfl (Bn (vs:=[(iV (a117.grams)),(iV (0)),(iV (1000000))]) (v:=(.bool (inR a117.grams 0 1000000))) (c_In) Tryd.func79 rfl rfl ⟨rfl,rfl,rfl,trivial⟩ ?_)
  refine Aa rfl (Ix (k:=inR a117.grams 0 1000000) rfl) ?_
  apply Ac
  apply k122
  refine As (t:=!(inR a117.grams 0 1000000)) rfl (fun b125=>?_) (fun b125=>?_)
  ·have b126:=not_eq_t b125
   have q126:=Ui.1 b126
   refine w_q rfl rfl fun K127 k127=>?_
   refine l_A (iV (1)) rfl rfl ?_
   apply Ac
   apply k127
   refine Aj (Arw (Arz l2 l120)) ?_
   refine Aq ?_
   refine hret _ _ _ ?_
   refine ⟨rfl,rfl,Eq.trans (b:=(iV (1))) rfl ?_⟩
   have hF:Ew m = 0:=by rw [Ew,if_neg (by omega),Fb fun j hj=>p26_1 j (by omega)]
   have hf:Iz m s = 1:=by simp [Iz,ha117,b8,b15,b22,b32,b101,b111,b125,b126,q8,q15,q22,q32,q101,q111,q126]
   rw [Ch,Gt q8,Gt q15,Gt hF,Jb,if_neg (by omega),Db p105_1 (by omega) hf (by omega)]
  have b128:=not_eq_f b125
  have q128:=Ge.1 b128
  refine Al ?_
  apply k121
  refine Ai fun K129 k129=>?_
  refine w_q rfl rfl fun K130 k130=>?_
  refine Ak rfl (Ay Sale.f_sellers Tryd.underlying59 rfl rfl Vg (by decide) rfl r120) fun v131 r131=>?_
  refine Ak rfl (Ax Vg rfl r131) fun v132 r132=>?_
  have g133:=Val.len r132
  refine Aa rfl (Ce (el:=3) Tryd.underlying30 rfl r132) ?_
  refine Aa rfl (Ek (p:=((a117.sellers.length:Nat):Int)) (q:=0) rfl rfl) ?_
  apply Ac
  apply k130
  refine As (t:=((a117.sellers.length:Nat):Int) == 0) rfl (fun b134=>?_) (fun b134=>?_)
  ·have q134:=Jo b134
   refine w_q rfl rfl fun K135 k135=>?_
   refine l_A (iV (2)) rfl rfl ?_
   apply Ac
   apply k135
   refine Aj (Arw (Arz l2 l120)) ?_
   refine Aq ?_
   refine hret _ _ _ ?_
   refine ⟨rfl,rfl,Eq.trans (b:=(iV (2))) rfl ?_⟩
   have hF:Ew m = 0:=by rw [Ew,if_neg (by omega),Fb fun j hj=>p26_1 j (by omega)]
   have hf:Iz m s = 2:=by simp [Iz,ha117,b8,b15,b22,b32,b101,b111,b125,b128,b134,q8,q15,q22,q32,q101,q111,q128,q134]
   rw [Ch,Gt q8,Gt q15,Gt hF,Jb,if_neg (by omega),Db p105_1 (by omega) hf (by omega)]
  have q134:=La b134
  refine Al ?_
  apply k129
  refine w_q rfl rfl fun K136 k136=>?_
  refine l_A (iV (0)) rfl rfl ?_
  apply Ac
  apply k136
  refine Ao ?_
  refine Cc (fun mm ee dd ρ' σ'=>∃ (q:Nat),(a117.sellers.length - q) = mm∧[] = dd∧ρ120 = ρ'∧σ = σ'∧ee 1 = (.pointer (some ⟨k2,0,none⟩))∧ee 9 = (iV ((s:Int)))∧ee 10 = (.pointer (some ⟨k119,0,none⟩))∧ee 11 = (iV ((q:Int)))∧(q ≤ a117.sellers.length)∧(∀ j,j < q→Gu m a117 j = 0)∧True) (m:=_) ⟨0,rfl,rfl,rfl,rfl,h105_1,h105_9,rfl,rfl,(Nat.zero_le _),(fun j h=>absurd h (Nat.not_lt_zero _)),trivial⟩ ?_
  rintro m137 e137 _ _ _ ⟨q,rfl,rfl,rfl,rfl,h137_1,h137_9,h137_10,h137_11,p137_0,p137_1,_⟩
  refine Ai fun K138 k138=>?_
  refine w_q rfl rfl fun K139 k139=>?_
  refine Aa rfl (Ah (v:=(iV ((q:Int)))) h137_11) ?_
  refine Ak rfl (Ay Sale.f_sellers Tryd.underlying59 rfl rfl Vg (by decide) h137_10 r120) fun v140 r140=>?_
  refine Ak rfl (Ax Vg rfl r140) fun v141 r141=>?_
  have g142:=Val.len r141
  refine Aa rfl (Ce (el:=3) Tryd.underlying30 rfl r141) ?_
  refine Aa rfl (Da (p:=(q:Int)) (q:=((a117.sellers.length:Nat):Int)) rfl rfl) ?_
  apply Ac
  apply k139
  refine As (t:=decide ((q:Int) < ((a117.sellers.length:Nat):Int))) rfl (fun b143=>?_) (fun b143=>?_)
  ·have q143:=of_decide_eq_true b143
   refine Al ?_
   apply k138
   refine Ai fun K144 k144=>?_
   refine Ao ?_
   refine Ai fun K145 k145=>?_
   refine Ai fun K146 k146=>?_
   refine Dc [0,1,2,3,4,5,6,7,8,9,10] (by kernel_rfl) rfl rfl ?_
   refine Cd (i:=0) [o1,o0,o0,o0,o0,o0,o0,o0,o0,o0,o0] rfl (by kernel_rfl) rfl Ary rfl (Ay Sale.f_sellers Tryd.underlying59 rfl rfl Vg (by decide) h137_10 r120) fun v147 r147=>?_
   refine Cd (i:=1) [o1,o1,o0,o0,o0,o0,o0,o0,o0,o0,o0] rfl (by kernel_rfl) rfl Ary rfl (Ax Vg rfl r147) fun v148 r148=>?_
   refine Be (i:=2) [o1,o1,o1,o0,o0,o0,o0,o0,o0,o0,o0] rfl (by kernel_rfl) rfl Ary rfl (Ah (v:=(iV ((q:Int)))) h137_11) ?_
   obtain ⟨a150,ha150⟩:=Ed (xs:=a117.sellers) (i:=q) (by omega)
   refine Cd (i:=3) [o1,o1,o1,o1,o0,o0,o0,o0,o0,o0,o0] rfl (by kernel_rfl) rfl Ary rfl (Ci q Tryd.underlying30 ty3 rfl r148 (q:=(q:Int)) rfl rfl ha150) fun v149 r149=>?_
   have ⟨g151a,g151b⟩:=At.rng r149
   refine Be (i:=4) [o1,o1,o1,o1,o1,o0,o0,o0,o0,o0,o0] rfl (by kernel_rfl) rfl Ary rfl (Bc ty3 rfl r149) ?_
   refine Hl (i:=5) Apb rfl (by kernel_rfl) rfl Ary rfl (Ay Market.f_houses Tryd.underlying26 rfl rfl Hu (by decide) h137_1 r2) fun v152 r152=>?_
   refine Hl (i:=6) zZ2 rfl (by kernel_rfl) rfl Ary rfl (Ax Hu rfl r152) fun v153 r153=>?_
   have g154:=Val.len r153
   refine Bg (i:=7) zZ3 rfl (by kernel_rfl) rfl Ary rfl (Ce (el:=9) Tryd.underlying22 rfl r153) ?_
   refine Bg (i:=8) zZ4 rfl (by kernel_rfl) rfl Ary rfl (Oq (p:=((m.houses.length:Nat):Int)) (q:=1) rfl rfl (z:=(((m.houses.length:Nat):Int) - 1)) (Bo (by first | rfl | omega | (push_cast; rfl)) (by omega) (by omega))) ?_
   refine Dj (i:=9) zZ5 rfl (by kernel_rfl) rfl rfl (Bn (vs:=[(iV (a150)),(iV (0)),(iV ((((m.houses.length:Nat):Int) - 1)))]) (v:=(.bool (inR a150 0 ((((m.houses.length:Nat):Int) - 1))))) (c_In) Tryd.func79 rfl rfl ⟨rfl,rfl,rfl,trivial⟩ ⟨Ary,?_⟩)
   refine Bg (i:=10) zZ6 rfl (by kernel_rfl) rfl Ary rfl (Ix (k:=inR a150 0 ((((m.houses.length:Nat):Int) - 1))) rfl) ?_
   refine Ec rfl ?_
   apply k146
   refine As (t:=!(inR a150 0 ((((m.houses.length:Nat):Int) - 1)))) rfl (fun b155=>?_) (fun b155=>?_)
   ·have b156:=not_eq_t b155
    have q156:=Ui.1 b156
    refine w_q rfl rfl fun K157 k157=>?_
    refine l_A (iV (6)) rfl rfl ?_
    apply Ac
    apply k157
    refine Aj (Arw (Arz l2 l120)) ?_
    refine Aq ?_
    refine hret _ _ _ ?_
    refine ⟨rfl,rfl,Eq.trans (b:=(iV (6))) rfl ?_⟩
    have hF:Ew m = 0:=by rw [Ew,if_neg (by omega),Fb fun j hj=>p26_1 j (by omega)]
    have hq:Gu m a117 q = 6:=by
     simp [Gu,ha150,b8,b15,b22,b32,b101,b111,b125,b128,b134,b143,b155,b156]
    have hf:Iz m s = 6:=by simp only [Iz,ha117,b8,b15,b22,b32,b101,b111,b125,b128,b134,b143,b155,b156,if_true]; rw [if_neg (by omega),Db p137_1 (by omega) hq (by omega)]
    rw [Ch,Gt q8,Gt q15,Gt hF,Jb,if_neg (by omega),Db p105_1 (by omega) hf (by omega)]
   have b158:=not_eq_f b155
   have q158:=Ge.1 b158
   refine Al ?_
   apply k145
   refine Ai fun K159 k159=>?_
   refine Dc [0,1,2,3,4,5,6,7,8,9,10,11,12,13,14,15] (by kernel_rfl) rfl rfl ?_
   refine Bg (i:=0) Apx rfl (by kernel_rfl) rfl Ary rfl (Ah (v:=(iV ((q:Int)))) h137_11) ?_
   refine Bg (i:=1) Arn rfl (by kernel_rfl) rfl Ary rfl (Gk (p:=(q:Int)) (q:=0) rfl rfl) ?_
   refine Bg (i:=2) Aqz rfl (by kernel_rfl) rfl Ary rfl (Ah (v:=(.bool (decide ((q:Int) > 0)))) rfl) ?_
   refine Akl (decide ((q:Int) > 0)) (fun b160=>?_) (fun b160=>?_)
   ·have q160:=of_decide_eq_true b160
    refine Cd (i:=3) Arc rfl (by kernel_rfl) rfl Ary (Ar rfl rfl rfl b160) (Ay Sale.f_sellers Tryd.underlying59 rfl rfl Vg (by decide) h137_10 r120) fun v161 r161=>?_
    refine Cd (i:=4) Ark rfl (by kernel_rfl) rfl Ary (Ar rfl rfl rfl b160) (Ax Vg rfl r161) fun v162 r162=>?_
    refine Be (i:=5) Aqg rfl (by kernel_rfl) rfl Ary (Ar rfl rfl rfl b160) (Ah (v:=(iV ((q:Int)))) h137_11) ?_
    refine Cd (i:=6) Aqb rfl (by kernel_rfl) rfl Ary (Ar rfl rfl rfl b160) (Ci q Tryd.underlying30 ty3 rfl r162 (q:=(q:Int)) rfl rfl ha150) fun v163 r163=>?_
    have ⟨g164a,g164b⟩:=At.rng r163
    refine Be (i:=7) Aoa rfl (by kernel_rfl) rfl Ary (Ar rfl rfl rfl b160) (Bc ty3 rfl r163) ?_
    refine Cd (i:=8) Amy rfl (by kernel_rfl) rfl Ary (Ar rfl rfl rfl b160) (Ay Sale.f_sellers Tryd.underlying59 rfl rfl Vg (by decide) h137_10 r120) fun v165 r165=>?_
    refine Cd (i:=9) Anr rfl (by kernel_rfl) rfl Ary (Ar rfl rfl rfl b160) (Ax Vg rfl r165) fun v166 r166=>?_
    refine Bg (i:=10) [o1,o1,o1,o1,o1,o1,o1,o1,o1,o1,o1,o0,o0,o0,o0,o0] rfl (by kernel_rfl) rfl Ary (Ar rfl rfl rfl b160) (Ah (v:=(iV ((q:Int)))) h137_11) ?_
    refine Bg (i:=11) [o1,o1,o1,o1,o1,o1,o1,o1,o1,o1,o1,o1,o0,o0,o0,o0] rfl (by kernel_rfl) rfl Ary (Ar rfl rfl rfl b160) (Oq (p:=(q:Int)) (q:=1) rfl rfl (z:=((q:Int) - 1)) (Bo (by first | rfl | omega | (push_cast; rfl)) (by omega) (by omega))) ?_
    obtain ⟨a168,ha168⟩:=Ed (xs:=a117.sellers) (i:=(((q:Int) - 1)).toNat) (by omega)
    refine Hl (i:=12) Ans rfl (by kernel_rfl) rfl Ary (Ar rfl rfl rfl b160) (Ci ((((q:Int) - 1)).toNat) Tryd.underlying30 ty3 rfl r166 (q:=((q:Int) - 1)) rfl (by omega) ha168) fun v167 r167=>?_
    have ⟨g169a,g169b⟩:=At.rng r167
    refine Bg (i:=13) Apc rfl (by kernel_rfl) rfl Ary (Ar rfl rfl rfl b160) (Bc ty3 rfl r167) ?_
    refine Bg (i:=14) Amv rfl (by kernel_rfl) rfl Ary (Ar rfl rfl rfl b160) (Tx (p:=a150) (q:=a168) rfl rfl) ?_
    refine Bg (i:=15) Apa rfl (by kernel_rfl) rfl Ary rfl (Bt rfl b160 (v:=(.bool (decide (a150 ≤ a168)))) rfl) ?_
    refine Ec rfl ?_
    apply k159
    refine As (t:=decide (a150 ≤ a168)) rfl (fun b170=>?_) (fun b170=>?_)
    ·have q170:=of_decide_eq_true b170
     refine w_q rfl rfl fun K171 k171=>?_
     refine l_A (iV (7)) rfl rfl ?_
     apply Ac
     apply k171
     refine Aj (Arw (Arz l2 l120)) ?_
     refine Aq ?_
     refine hret _ _ _ ?_
     refine ⟨rfl,rfl,Eq.trans (b:=(iV (7))) rfl ?_⟩
     have hF:Ew m = 0:=by rw [Ew,if_neg (by omega),Fb fun j hj=>p26_1 j (by omega)]
     have hq:Gu m a117 q = 7:=by
      have hp:a117.sellers[q - 1]? = some a168:=by rw [← ha168]; congr 1; omega
      have h0:0 < q:=by omega
      simp only [Gu,ha150,if_pos h0,hp,b8,b15,b22,b32,b101,b111,b125,b128,b134,b143,b155,b158,b160,b170,if_true]; first | rw [if_pos (by omega)] | rw [if_neg (by omega)]
     have hf:Iz m s = 7:=by simp only [Iz,ha117,b8,b15,b22,b32,b101,b111,b125,b128,b134,b143,b155,b158,b160,b170,if_true]; rw [if_neg (by omega),Db p137_1 (by omega) hq (by omega)]
     rw [Ch,Gt q8,Gt q15,Gt hF,Jb,if_neg (by omega),Db p105_1 (by omega) hf (by omega)]
    have q170:=of_decide_eq_false b170
    refine Al ?_
    apply k144
    refine Ag rfl rfl ?_
    refine Aa rfl (Ah (v:=(iV ((q:Int)))) h137_11) ?_
    refine Aa rfl (Br (p:=(q:Int)) (q:=1) rfl rfl (z:=(((q + 1):Nat):Int)) (Bo (by first | rfl | omega | (push_cast; rfl)) (by omega) (by omega))) ?_
    refine l_A (iV ((((q + 1):Nat):Int))) rfl rfl ?_
    apply Ac
    refine ⟨_,?_,((q + 1)),rfl,rfl,rfl,rfl,h137_1,h137_9,h137_10,rfl,(by omega),(Ef p137_1 (by
 have hp:a117.sellers[q - 1]? = some a168:=by rw [← ha168]; congr 1; omega
 have h0:0 < q:=by omega
 simp only [Gu,ha150,if_pos h0,hp,b8,b15,b22,b32,b101,b111,b125,b128,b134,b143,b155,b158,b160,b170,if_true]; first | rw [if_pos (by omega)] | rw [if_neg (by omega)])),trivial⟩
    omega
   have q160:=of_decide_eq_false b160
   refine Ua (i:=3) Arc rfl (by kernel_rfl) rfl Ary (Bl rfl rfl rfl b160) ?_
   refine Ua (i:=4) Ark rfl (by kernel_rfl) rfl Ary (Bl rfl rfl rfl b160) ?_
   refine Ua (i:=5) Aqg rfl (by kernel_rfl) rfl Ary (Bl rfl rfl rfl b160) ?_
   refine Ua (i:=6) Aqb rfl (by kernel_rfl) rfl Ary (Bl rfl rfl rfl b160) ?_
   refine Ua (i:=7) Aoa rfl (by kernel_rfl) rfl Ary (Bl rfl rfl rfl b160) ?_
   refine Ua (i:=8) Amy rfl (by kernel_rfl) rfl Ary (Bl rfl rfl rfl b160) ?_
   refine Ua (i:=9) Anr rfl (by kernel_rfl) rfl Ary (Bl rfl rfl rfl b160) ?_
   refine Xl (i:=10) [o1,o1,o1,o1,o1,o1,o1,o1,o1,o1,o1,o0,o0,o0,o0,o0] rfl (by kernel_rfl) rfl Ary (Bl rfl rfl rfl b160) ?_
   refine Xl (i:=11) [o1,o1,o1,o1,o1,o1,o1,o1,o1,o1,o1,o1,o0,o0,o0,o0] rfl (by kernel_rfl) rfl Ary (Bl rfl rfl rfl b160) ?_
   refine Xl (i:=12) Ans rfl (by kernel_rfl) rfl Ary (Bl rfl rfl rfl b160) ?_
   refine Xl (i:=13) Apc rfl (by kernel_rfl) rfl Ary (Bl rfl rfl rfl b160) ?_
   refine Xl (i:=14) Amv rfl (by kernel_rfl) rfl Ary (Bl rfl rfl rfl b160) ?_
   refine Bg (i:=15) Apa rfl (by kernel_rfl) rfl Ary rfl (Bm rfl b160 (v:=(.bool (false))) rfl) ?_
   refine Ec rfl ?_
   apply k159
   refine Cg rfl rfl ?_
   refine Al ?_
   apply k144
   refine Ag rfl rfl ?_
   refine Aa rfl (Ah (v:=(iV ((q:Int)))) h137_11) ?_
   refine Aa rfl (Br (p:=(q:Int)) (q:=1) rfl rfl (z:=(((q + 1):Nat):Int)) (Bo (by first | rfl | omega | (push_cast; rfl)) (by omega) (by omega))) ?_
   refine l_A (iV ((((q + 1):Nat):Int))) rfl rfl ?_
   apply Ac
   refine ⟨_,?_,((q + 1)),rfl,rfl,rfl,rfl,h137_1,h137_9,h137_10,rfl,(by omega),(Ef p137_1 (by
 have h0:¬ 0 < q:=by omega
 simp [Gu,ha150,if_neg h0,b8,b15,b22,b32,b101,b111,b125,b128,b134,b143,b155,b158,b160])),trivial⟩
   omega
  have q143:=of_decide_eq_false b143
  refine Bx ?_
  apply k112
  refine Ag rfl rfl ?_
  refine Aa rfl (Ah (v:=(iV ((s:Int)))) h137_9) ?_
  refine Aa rfl (Br (p:=(s:Int)) (q:=1) rfl rfl (z:=(((s + 1):Nat):Int)) (Bo (by first | rfl | omega | (push_cast; rfl)) (by omega) (by omega))) ?_
  refine l_A (iV ((((s + 1):Nat):Int))) rfl rfl ?_
  refine Bj (Arw l120) ?_
  apply Ac
  refine ⟨_,?_,((s + 1)),rfl,rfl,rfl,rfl,h137_1,rfl,(by omega),(Ef p105_1 (by
  simp only [Iz,ha117,b8,b15,b22,b32,b101,b111,b125,b128,b134,b143,if_true]; rw [if_neg (by omega),Fb fun j hj=>p137_1 j (by omega)])),trivial⟩
  omega
 have q111:=of_decide_eq_false b111
 refine Bx ?_
 apply k103
 refine w_q rfl rfl fun K172 k172=>?_
 refine l_A (iV (0)) rfl rfl ?_
 apply Ac
 apply k172
 refine Aj (Arw l2) ?_
 refine Aq ?_
 refine hret _ _ _ ?_
 refine ⟨rfl,rfl,Eq.trans (b:=(iV (0))) rfl ?_⟩
 have hF:Ew m = 0:=by rw [Ew,if_neg (by omega),Fb fun j hj=>p26_1 j (by omega)]
 rw [Ch,Gt q8,Gt q15,Gt hF,Jb,if_neg (by omega),Fb fun j hj=>p105_1 j (by omega)]
set_option maxRecDepth 100000 in
theorem c_Mixed {mn:Bool} {X:Frame→List Frame→Ro→Own→Cy→Prop} {ρ:Ro} {σ:Own} {m:Market} {vm:Value} {marks:List Span} {vk:Value} {i0 k0:Nat} {part:Int} {fa fb:FField} (rm:Val ρ vm m) (rk:Val ρ vk marks) (ok:AskOk m marks) (hfa:m.fields[i0]? = some fa) (hfb:m.fields[k0]? = some fb) (hp:0 ≤ part∧part ≤ 100):CallsH (CX mn X) 36 #[vm,vk,(iV ((i0:Int))),(iV ((k0:Int))),(iV (part))] ρ σ (fun w ρ' σ'=>ρ' = ρ∧σ' = σ∧w = (.bool (Gm fa fb marks part))):=by
 refine Bh (n:=74) (args:=[vm,vk,(iV ((i0:Int))),(iV ((k0:Int))),(iV (part))]) [10] Tryd.func36 rfl rfl rfl rfl fun Q hret hnor=>?_
 refine w_q rfl rfl fun K1 k1=>?_
 refine Ae rfl (Eb (v:=vm) rfl fun k2=>?_)
 refine Bb (a:=m) rm fun ρ2 l2 r2=>?_
 replace rm:=Asa l2 rm
 replace rk:=Asa l2 rk
 refine l_A (.bool (false)) rfl rfl ?_
 apply Ac
 apply k1
 refine Ai fun K3 k3=>?_
 refine w_q rfl rfl fun K4 k4=>?_
 refine l_A (iV (0)) rfl rfl ?_
 apply Ac
 apply k4
 refine Ao ?_
 refine Cc (fun mm ee dd ρ' σ'=>∃ (k:Nat),(marks.length - k) = mm∧[] = dd∧ρ2 = ρ'∧σ = σ'∧ee 1 = vk∧ee 2 = (iV ((i0:Int)))∧ee 3 = (iV ((k0:Int)))∧ee 4 = (iV (part))∧ee 5 = (.pointer (some ⟨k2,0,none⟩))∧ee 11 = (iV ((k:Int)))∧(k ≤ marks.length)∧(∀ j,j < k→Hm fa fb marks part j = false)∧True) (m:=_) ⟨0,rfl,rfl,rfl,rfl,rfl,rfl,rfl,rfl,rfl,rfl,(Nat.zero_le _),(fun j h=>absurd h (Nat.not_lt_zero _)),trivial⟩ ?_
 rintro m5 e5 _ _ _ ⟨k,rfl,rfl,rfl,rfl,h5_1,h5_2,h5_3,h5_4,h5_5,h5_11,p5_0,p5_1,_⟩
 refine Ai fun K6 k6=>?_
 refine w_q rfl rfl fun K7 k7=>?_
 refine Aa rfl (Ah (v:=(iV ((k:Int)))) h5_11) ?_
 refine Aa rfl (Ah (v:=vk) h5_1) ?_
 have g8:=Val.len rk
 refine Aa rfl (Ce (el:=65) Tryd.underlying27 rfl rk) ?_
 refine Aa rfl (Da (p:=(k:Int)) (q:=((marks.length:Nat):Int)) rfl rfl) ?_
 apply Ac
 apply k7
 refine As (t:=decide ((k:Int) < ((marks.length:Nat):Int))) rfl (fun b9=>?_) (fun b9=>?_)
 ·have q9:=of_decide_eq_true b9
  refine Al ?_
  apply k6
  refine Ai fun K10 k10=>?_
  refine Ao ?_
  refine Ai fun K11 k11=>?_
  refine Dc [0,1,2,3,4,5,6,7,8,9,10,11,12,13,14,15,16,17,18,19,20,21] (by kernel_rfl) rfl rfl ?_
  refine Cd (i:=0) [o1,o0,o0,o0,o0,o0,o0,o0,o0,o0,o0,o0,o0,o0,o0,o0,o0,o0,o0,o0,o0,o0] rfl (by kernel_rfl) rfl Ary rfl (Ay Market.f_fields Tryd.underlying26 rfl rfl Se (by decide) h5_5 r2) fun v12 r12=>?_
  refine Cd (i:=1) [o1,o1,o0,o0,o0,o0,o0,o0,o0,o0,o0,o0,o0,o0,o0,o0,o0,o0,o0,o0,o0,o0] rfl (by kernel_rfl) rfl Ary rfl (Ax Se rfl r12) fun v13 r13=>?_
  refine Be (i:=2) [o1,o1,o1,o0,o0,o0,o0,o0,o0,o0,o0,o0,o0,o0,o0,o0,o0,o0,o0,o0,o0,o0] rfl (by kernel_rfl) rfl Ary rfl (Ah (v:=(iV ((i0:Int)))) h5_2) ?_
  refine Cd (i:=3) [o1,o1,o1,o1,o0,o0,o0,o0,o0,o0,o0,o0,o0,o0,o0,o0,o0,o0,o0,o0,o0,o0] rfl (by kernel_rfl) rfl Ary rfl (Ci i0 Tryd.underlying23 Ln rfl r13 (q:=(i0:Int)) rfl rfl hfa) fun v14 r14=>?_
  refine Cd (i:=4) [o1,o1,o1,o1,o1,o0,o0,o0,o0,o0,o0,o0,o0,o0,o0,o0,o0,o0,o0,o0,o0,o0] rfl (by kernel_rfl) rfl Ary rfl (Ay FField.f_marks Tryd.underlying67 rfl rfl Ty (by decide) rfl r14) fun v15 r15=>?_
  refine Cd (i:=5) [o1,o1,o1,o1,o1,o1,o0,o0,o0,o0,o0,o0,o0,o0,o0,o0,o0,o0,o0,o0,o0,o0] rfl (by kernel_rfl) rfl Ary rfl (Ax Ty rfl r15) fun v16 r16=>?_
  refine Be (i:=6) [o1,o1,o1,o1,o1,o1,o1,o0,o0,o0,o0,o0,o0,o0,o0,o0,o0,o0,o0,o0,o0,o0] rfl (by kernel_rfl) rfl Ary rfl (Ah (v:=(iV ((k:Int)))) h5_11) ?_
  obtain ⟨a18,ha18⟩:=Ed (xs:=fa.marks) (i:=k) (by first | omega | (have h1:=(ok.fields _ _ hfa).1; have h2:=(ok.fields _ _ hfb).1; omega))
  obtain ⟨o19a,o19b,o19c⟩:=(ok.fields _ _ hfa).2 _ _ ha18
  refine Cd (i:=7) [o1,o1,o1,o1,o1,o1,o1,o1,o0,o0,o0,o0,o0,o0,o0,o0,o0,o0,o0,o0,o0,o0] rfl (by kernel_rfl) rfl Ary rfl (Ci k Tryd.underlying27 Mx rfl r16 (q:=(k:Int)) rfl rfl ha18) fun v17 r17=>?_
  refine Cd (i:=8) [o1,o1,o1,o1,o1,o1,o1,o1,o1,o0,o0,o0,o0,o0,o0,o0,o0,o0,o0,o0,o0,o0] rfl (by kernel_rfl) rfl Ary rfl (Ax Mx rfl r17) fun v20 r20=>?_
  refine Cd (i:=9) [o1,o1,o1,o1,o1,o1,o1,o1,o1,o1,o0,o0,o0,o0,o0,o0,o0,o0,o0,o0,o0,o0] rfl (by kernel_rfl) rfl Ary rfl (Ay Market.f_fields Tryd.underlying26 rfl rfl Se (by decide) h5_5 r2) fun v21 r21=>?_
  refine Cd (i:=10) [o1,o1,o1,o1,o1,o1,o1,o1,o1,o1,o1,o0,o0,o0,o0,o0,o0,o0,o0,o0,o0,o0] rfl (by kernel_rfl) rfl Ary rfl (Ax Se rfl r21) fun v22 r22=>?_
  refine Be (i:=11) [o1,o1,o1,o1,o1,o1,o1,o1,o1,o1,o1,o1,o0,o0,o0,o0,o0,o0,o0,o0,o0,o0] rfl (by kernel_rfl) rfl Ary rfl (Ah (v:=(iV ((k0:Int)))) h5_3) ?_
  refine Cd (i:=12) [o1,o1,o1,o1,o1,o1,o1,o1,o1,o1,o1,o1,o1,o0,o0,o0,o0,o0,o0,o0,o0,o0] rfl (by kernel_rfl) rfl Ary rfl (Ci k0 Tryd.underlying23 Ln rfl r22 (q:=(k0:Int)) rfl rfl hfb) fun v23 r23=>?_
  refine Cd (i:=13) [o1,o1,o1,o1,o1,o1,o1,o1,o1,o1,o1,o1,o1,o1,o0,o0,o0,o0,o0,o0,o0,o0] rfl (by kernel_rfl) rfl Ary rfl (Ay FField.f_marks Tryd.underlying67 rfl rfl Ty (by decide) rfl r23) fun v24 r24=>?_
  refine Cd (i:=14) [o1,o1,o1,o1,o1,o1,o1,o1,o1,o1,o1,o1,o1,o1,o1,o0,o0,o0,o0,o0,o0,o0] rfl (by kernel_rfl) rfl Ary rfl (Ax Ty rfl r24) fun v25 r25=>?_
  refine Be (i:=15) [o1,o1,o1,o1,o1,o1,o1,o1,o1,o1,o1,o1,o1,o1,o1,o1,o0,o0,o0,o0,o0,o0] rfl (by kernel_rfl) rfl Ary rfl (Ah (v:=(iV ((k:Int)))) h5_11) ?_
  obtain ⟨a27,ha27⟩:=Ed (xs:=fb.marks) (i:=k) (by first | omega | (have h1:=(ok.fields _ _ hfa).1; have h2:=(ok.fields _ _ hfb).1; omega))
  obtain ⟨o28a,o28b,o28c⟩:=(ok.fields _ _ hfb).2 _ _ ha27
  refine Cd (i:=16) [o1,o1,o1,o1,o1,o1,o1,o1,o1,o1,o1,o1,o1,o1,o1,o1,o1,o0,o0,o0,o0,o0] rfl (by kernel_rfl) rfl Ary rfl (Ci k Tryd.underlying27 Mx rfl r25 (q:=(k:Int)) rfl rfl ha27) fun v26 r26=>?_
  refine Cd (i:=17) [o1,o1,o1,o1,o1,o1,o1,o1,o1,o1,o1,o1,o1,o1,o1,o1,o1,o1,o0,o0,o0,o0] rfl (by kernel_rfl) rfl Ary rfl (Ax Mx rfl r26) fun v29 r29=>?_
  refine Acr (i:=18) (j:=19) [o1,o1,o1,o1,o1,o1,o1,o1,o1,o1,o1,o1,o1,o1,o1,o1,o1,o1,o1,o0,o0,o0] [o1,o1,o1,o1,o1,o1,o1,o1,o1,o1,o1,o1,o1,o1,o1,o1,o1,o1,o0,o1,o0,o0] rfl rfl (by kernel_rfl) rfl rfl rfl rfl ?_ ?_
  ·refine Ct Yn fun k30=>⟨Ary,?_⟩
   refine Dj (i:=19) [o1,o1,o1,o1,o1,o1,o1,o1,o1,o1,o1,o1,o1,o1,o1,o1,o1,o1,o1,o1,o0,o0] rfl (by kernel_rfl) rfl rfl (Ct Yn fun k31=>⟨Ary,?_⟩)
   refine Ej (σ':=((k30,Res.obj (Obj.cells (Arg).toArray 65 (0,0))) :: ((k31,Res.obj (Obj.cells (Arg).toArray 65 (0,0))) :: σ))) (Arx (List.perm_append_comm_assoc ([(k31,Res.obj (Obj.cells (Arg).toArray 65 (0,0)))]) ([(k30,Res.obj (Obj.cells (Arg).toArray 65 (0,0)))]) _)) id ?_
   refine Fi (i:=20) [o1,o1,o1,o1,o1,o1,o1,o1,o1,o1,o1,o1,o1,o1,o1,o1,o1,o1,o1,o1,o1,o0] rfl (by kernel_rfl) rfl rfl (Du (v:=v20) (a:=a18) (c:=Arg) Mx rfl rfl r20 rfl ⟨Ary,?_⟩)
   refine a_freezeAt (a:=a18) r20 fun ρ32 l32 r32=>?_
   replace rk:=Asa l32 rk
   replace r2:=Arv l32 r2
   replace r12:=Arv l32 r12
   replace r13:=Asa l32 r13
   replace r14:=Arv l32 r14
   replace r15:=Arv l32 r15
   replace r16:=Asa l32 r16
   replace r17:=Arv l32 r17
   replace r20:=Asa l32 r20
   replace r21:=Arv l32 r21
   replace r22:=Asa l32 r22
   replace r23:=Arv l32 r23
   replace r24:=Arv l32 r24
   replace r25:=Asa l32 r25
   replace r26:=Arv l32 r26
   replace r29:=Asa l32 r29
   refine Fi (i:=21) [o1,o1,o1,o1,o1,o1,o1,o1,o1,o1,o1,o1,o1,o1,o1,o1,o1,o1,o1,o1,o1,o1] rfl (by kernel_rfl) rfl rfl (Du (v:=v29) (a:=a27) (c:=Arg) Mx rfl rfl r29 rfl ⟨l32,?_⟩)
   refine Ec rfl ?_
   apply k11
   refine Ng (a:=a27) r29 fun ρ33 l33 r33=>?_
   replace rk:=Asa l33 rk
   replace r2:=Arv l33 r2
   replace r32:=Arv l33 r32
   refine Ai fun K34 k34=>?_
   refine Dc [0,1,2,3,4,5,6,7,8,9,10,11,12,13,14,15,16,17,18,19,20,21,22,23,24,25,26,27,28,29,30,31,32,33,34,35] (by kernel_rfl) rfl rfl ?_
   refine Be (i:=0) [o1,o0,o0,o0,o0,o0,o0,o0,o0,o0,o0,o0,o0,o0,o0,o0,o0,o0,o0,o0,o0,o0,o0,o0,o0,o0,o0,o0,o0,o0,o0,o0,o0,o0,o0,o0] rfl (by kernel_rfl) rfl Ary rfl (Ah (v:=(iV (part))) h5_4) ?_
   refine Cd (i:=1) [o1,o1,o0,o0,o0,o0,o0,o0,o0,o0,o0,o0,o0,o0,o0,o0,o0,o0,o0,o0,o0,o0,o0,o0,o0,o0,o0,o0,o0,o0,o0,o0,o0,o0,o0,o0] rfl (by kernel_rfl) rfl Ary rfl (Ay Span.f_low Tryd.underlying65 rfl rfl ty3 (by decide) rfl r32) fun v35 r35=>?_
   have ⟨g36a,g36b⟩:=At.rng r35
   refine Be (i:=2) [o1,o1,o1,o0,o0,o0,o0,o0,o0,o0,o0,o0,o0,o0,o0,o0,o0,o0,o0,o0,o0,o0,o0,o0,o0,o0,o0,o0,o0,o0,o0,o0,o0,o0,o0,o0] rfl (by kernel_rfl) rfl Ary rfl (Bc ty3 rfl r35) ?_
   have mm37:=Aee (p:=part) (x:=a18.low) (by omega) (by omega)
   refine Be (i:=3) [o1,o1,o1,o1,o0,o0,o0,o0,o0,o0,o0,o0,o0,o0,o0,o0,o0,o0,o0,o0,o0,o0,o0,o0,o0,o0,o0,o0,o0,o0,o0,o0,o0,o0,o0,o0] rfl (by kernel_rfl) rfl Ary rfl (Vz (p:=part) (q:=a18.low) rfl rfl (z:=(part * a18.low)) (Bo rfl (by omega) (by omega))) ?_
   refine Be (i:=4) [o1,o1,o1,o1,o1,o0,o0,o0,o0,o0,o0,o0,o0,o0,o0,o0,o0,o0,o0,o0,o0,o0,o0,o0,o0,o0,o0,o0,o0,o0,o0,o0,o0,o0,o0,o0] rfl (by kernel_rfl) rfl Ary rfl (Ah (v:=(iV (part))) h5_4) ?_
   refine Be (i:=5) [o1,o1,o1,o1,o1,o1,o0,o0,o0,o0,o0,o0,o0,o0,o0,o0,o0,o0,o0,o0,o0,o0,o0,o0,o0,o0,o0,o0,o0,o0,o0,o0,o0,o0,o0,o0] rfl (by kernel_rfl) rfl Ary rfl (Oq (p:=100) (q:=part) rfl rfl (z:=(100 - part)) (Bo (by first | rfl | omega | (push_cast; rfl)) (by omega) (by omega))) ?_
   refine Cd (i:=6) [o1,o1,o1,o1,o1,o1,o1,o0,o0,o0,o0,o0,o0,o0,o0,o0,o0,o0,o0,o0,o0,o0,o0,o0,o0,o0,o0,o0,o0,o0,o0,o0,o0,o0,o0,o0] rfl (by kernel_rfl) rfl Ary rfl (Ay Span.f_low Tryd.underlying65 rfl rfl ty3 (by decide) rfl r33) fun v38 r38=>?_
   have ⟨g39a,g39b⟩:=At.rng r38
   refine Be (i:=7) [o1,o1,o1,o1,o1,o1,o1,o1,o0,o0,o0,o0,o0,o0,o0,o0,o0,o0,o0,o0,o0,o0,o0,o0,o0,o0,o0,o0,o0,o0,o0,o0,o0,o0,o0,o0] rfl (by kernel_rfl) rfl Ary rfl (Bc ty3 rfl r38) ?_
   have mm40:=Aee (p:=(100 - part)) (x:=a27.low) (by omega) (by omega)
   refine Be (i:=8) [o1,o1,o1,o1,o1,o1,o1,o1,o1,o0,o0,o0,o0,o0,o0,o0,o0,o0,o0,o0,o0,o0,o0,o0,o0,o0,o0,o0,o0,o0,o0,o0,o0,o0,o0,o0] rfl (by kernel_rfl) rfl Ary rfl (Vz (p:=(100 - part)) (q:=a27.low) rfl rfl (z:=((100 - part) * a27.low)) (Bo rfl (by omega) (by omega))) ?_
   refine Be (i:=9) [o1,o1,o1,o1,o1,o1,o1,o1,o1,o1,o0,o0,o0,o0,o0,o0,o0,o0,o0,o0,o0,o0,o0,o0,o0,o0,o0,o0,o0,o0,o0,o0,o0,o0,o0,o0] rfl (by kernel_rfl) rfl Ary rfl (Br (p:=(part * a18.low)) (q:=((100 - part) * a27.low)) rfl rfl (z:=((part * a18.low) + ((100 - part) * a27.low))) (Bo (by rfl) (by omega) (by omega))) ?_
   refine Be (i:=10) [o1,o1,o1,o1,o1,o1,o1,o1,o1,o1,o1,o0,o0,o0,o0,o0,o0,o0,o0,o0,o0,o0,o0,o0,o0,o0,o0,o0,o0,o0,o0,o0,o0,o0,o0,o0] rfl (by kernel_rfl) rfl Ary rfl (Ah (v:=vk) h5_1) ?_
   refine Bg (i:=11) [o1,o1,o1,o1,o1,o1,o1,o1,o1,o1,o1,o1,o0,o0,o0,o0,o0,o0,o0,o0,o0,o0,o0,o0,o0,o0,o0,o0,o0,o0,o0,o0,o0,o0,o0,o0] rfl (by kernel_rfl) rfl Ary rfl (Ah (v:=(iV ((k:Int)))) h5_11) ?_
   obtain ⟨a42,ha42⟩:=Ed (xs:=marks) (i:=k) (by first | omega | (have h1:=(ok.fields _ _ hfa).1; have h2:=(ok.fields _ _ hfb).1; omega))
   obtain ⟨o43a,o43b,o43c⟩:=ok.marks _ _ ha42
   refine Hl (i:=12) [o1,o1,o1,o1,o1,o1,o1,o1,o1,o1,o1,o1,o1,o0,o0,o0,o0,o0,o0,o0,o0,o0,o0,o0,o0,o0,o0,o0,o0,o0,o0,o0,o0,o0,o0,o0] rfl (by kernel_rfl) rfl Ary rfl (Ci k Tryd.underlying27 Mx rfl rk (q:=(k:Int)) rfl rfl ha42) fun v41 r41=>?_
   refine Hl (i:=13) [o1,o1,o1,o1,o1,o1,o1,o1,o1,o1,o1,o1,o1,o1,o0,o0,o0,o0,o0,o0,o0,o0,o0,o0,o0,o0,o0,o0,o0,o0,o0,o0,o0,o0,o0,o0] rfl (by kernel_rfl) rfl Ary rfl (Ay Span.f_high Tryd.underlying65 rfl rfl ty3 (by decide) rfl r41) fun v44 r44=>?_
   have ⟨g45a,g45b⟩:=At.rng r44
   refine Bg (i:=14) [o1,o1,o1,o1,o1,o1,o1,o1,o1,o1,o1,o1,o1,o1,o1,o0,o0,o0,o0,o0,o0,o0,o0,o0,o0,o0,o0,o0,o0,o0,o0,o0,o0,o0,o0,o0] rfl (by kernel_rfl) rfl Ary rfl (Bc ty3 rfl r44) ?_
   have mm46:=Aee (p:=100) (x:=a42.high) (by omega) (by omega)
   refine Bg (i:=15) [o1,o1,o1,o1,o1,o1,o1,o1,o1,o1,o1,o1,o1,o1,o1,o1,o0,o0,o0,o0,o0,o0,o0,o0,o0,o0,o0,o0,o0,o0,o0,o0,o0,o0,o0,o0] rfl (by kernel_rfl) rfl Ary rfl (Vz (p:=100) (q:=a42.high) rfl rfl (z:=(100 * a42.high)) (Bo rfl (by omega) (by omega))) ?_
   refine Bg (i:=16) [o1,o1,o1,o1,o1,o1,o1,o1,o1,o1,o1,o1,o1,o1,o1,o1,o1,o0,o0,o0,o0,o0,o0,o0,o0,o0,o0,o0,o0,o0,o0,o0,o0,o0,o0,o0] rfl (by kernel_rfl) rfl Ary rfl (Gk (p:=((part * a18.low) + ((100 - part) * a27.low))) (q:=(100 * a42.high)) rfl rfl) ?_
   refine Bg (i:=17) [o1,o1,o1,o1,o1,o1,o1,o1,o1,o1,o1,o1,o1,o1,o1,o1,o1,o1,o0,o0,o0,o0,o0,o0,o0,o0,o0,o0,o0,o0,o0,o0,o0,o0,o0,o0] rfl (by kernel_rfl) rfl Ary rfl (Ah (v:=(.bool (decide (((part * a18.low) + ((100 - part) * a27.low)) > (100 * a42.high))))) rfl) ?_
   refine Akl (decide (((part * a18.low) + ((100 - part) * a27.low)) > (100 * a42.high))) (fun b47=>?_) (fun b47=>?_)
   ·have q47:=of_decide_eq_true b47
    refine Ua (i:=18) [o1,o1,o1,o1,o1,o1,o1,o1,o1,o1,o1,o1,o1,o1,o1,o1,o1,o1,o1,o0,o0,o0,o0,o0,o0,o0,o0,o0,o0,o0,o0,o0,o0,o0,o0,o0] rfl (by kernel_rfl) rfl Ary (Bl rfl rfl rfl b47) ?_
    refine Ua (i:=19) [o1,o1,o1,o1,o1,o1,o1,o1,o1,o1,o1,o1,o1,o1,o1,o1,o1,o1,o1,o1,o0,o0,o0,o0,o0,o0,o0,o0,o0,o0,o0,o0,o0,o0,o0,o0] rfl (by kernel_rfl) rfl Ary (Bl rfl rfl rfl b47) ?_
    refine Ua (i:=20) [o1,o1,o1,o1,o1,o1,o1,o1,o1,o1,o1,o1,o1,o1,o1,o1,o1,o1,o1,o1,o1,o0,o0,o0,o0,o0,o0,o0,o0,o0,o0,o0,o0,o0,o0,o0] rfl (by kernel_rfl) rfl Ary (Bl rfl rfl rfl b47) ?_
    refine Ua (i:=21) [o1,o1,o1,o1,o1,o1,o1,o1,o1,o1,o1,o1,o1,o1,o1,o1,o1,o1,o1,o1,o1,o1,o0,o0,o0,o0,o0,o0,o0,o0,o0,o0,o0,o0,o0,o0] rfl (by kernel_rfl) rfl Ary (Bl rfl rfl rfl b47) ?_
    refine Ua (i:=22) [o1,o1,o1,o1,o1,o1,o1,o1,o1,o1,o1,o1,o1,o1,o1,o1,o1,o1,o1,o1,o1,o1,o1,o0,o0,o0,o0,o0,o0,o0,o0,o0,o0,o0,o0,o0] rfl (by kernel_rfl) rfl Ary (Bl rfl rfl rfl b47) ?_
    refine Ua (i:=23) [o1,o1,o1,o1,o1,o1,o1,o1,o1,o1,o1,o1,o1,o1,o1,o1,o1,o1,o1,o1,o1,o1,o1,o1,o0,o0,o0,o0,o0,o0,o0,o0,o0,o0,o0,o0] rfl (by kernel_rfl) rfl Ary (Bl rfl rfl rfl b47) ?_
    refine Ua (i:=24) [o1,o1,o1,o1,o1,o1,o1,o1,o1,o1,o1,o1,o1,o1,o1,o1,o1,o1,o1,o1,o1,o1,o1,o1,o1,o0,o0,o0,o0,o0,o0,o0,o0,o0,o0,o0] rfl (by kernel_rfl) rfl Ary (Bl rfl rfl rfl b47) ?_
    refine Ua (i:=25) [o1,o1,o1,o1,o1,o1,o1,o1,o1,o1,o1,o1,o1,o1,o1,o1,o1,o1,o1,o1,o1,o1,o1,o1,o1,o1,o0,o0,o0,o0,o0,o0,o0,o0,o0,o0] rfl (by kernel_rfl) rfl Ary (Bl rfl rfl rfl b47) ?_
    refine Ua (i:=26) [o1,o1,o1,o1,o1,o1,o1,o1,o1,o1,o1,o1,o1,o1,o1,o1,o1,o1,o1,o1,o1,o1,o1,o1,o1,o1,o1,o0,o0,o0,o0,o0,o0,o0,o0,o0] rfl (by kernel_rfl) rfl Ary (Bl rfl rfl rfl b47) ?_
    refine Ua (i:=27) [o1,o1,o1,o1,o1,o1,o1,o1,o1,o1,o1,o1,o1,o1,o1,o1,o1,o1,o1,o1,o1,o1,o1,o1,o1,o1,o1,o1,o0,o0,o0,o0,o0,o0,o0,o0] rfl (by kernel_rfl) rfl Ary (Bl rfl rfl rfl b47) ?_
    refine Ua (i:=28) [o1,o1,o1,o1,o1,o1,o1,o1,o1,o1,o1,o1,o1,o1,o1,o1,o1,o1,o1,o1,o1,o1,o1,o1,o1,o1,o1,o1,o1,o0,o0,o0,o0,o0,o0,o0] rfl (by kernel_rfl) rfl Ary (Bl rfl rfl rfl b47) ?_
    refine Xl (i:=29) [o1,o1,o1,o1,o1,o1,o1,o1,o1,o1,o1,o1,o1,o1,o1,o1,o1,o1,o1,o1,o1,o1,o1,o1,o1,o1,o1,o1,o1,o1,o0,o0,o0,o0,o0,o0] rfl (by kernel_rfl) rfl Ary (Bl rfl rfl rfl b47) ?_
    refine Xl (i:=30) [o1,o1,o1,o1,o1,o1,o1,o1,o1,o1,o1,o1,o1,o1,o1,o1,o1,o1,o1,o1,o1,o1,o1,o1,o1,o1,o1,o1,o1,o1,o1,o0,o0,o0,o0,o0] rfl (by kernel_rfl) rfl Ary (Bl rfl rfl rfl b47) ?_
    refine Xl (i:=31) [o1,o1,o1,o1,o1,o1,o1,o1,o1,o1,o1,o1,o1,o1,o1,o1,o1,o1,o1,o1,o1,o1,o1,o1,o1,o1,o1,o1,o1,o1,o1,o1,o0,o0,o0,o0] rfl (by kernel_rfl) rfl Ary (Bl rfl rfl rfl b47) ?_
    refine Xl (i:=32) [o1,o1,o1,o1,o1,o1,o1,o1,o1,o1,o1,o1,o1,o1,o1,o1,o1,o1,o1,o1,o1,o1,o1,o1,o1,o1,o1,o1,o1,o1,o1,o1,o1,o0,o0,o0] rfl (by kernel_rfl) rfl Ary (Bl rfl rfl rfl b47) ?_
    refine Xl (i:=33) [o1,o1,o1,o1,o1,o1,o1,o1,o1,o1,o1,o1,o1,o1,o1,o1,o1,o1,o1,o1,o1,o1,o1,o1,o1,o1,o1,o1,o1,o1,o1,o1,o1,o1,o0,o0] rfl (by kernel_rfl) rfl Ary (Bl rfl rfl rfl b47) ?_
    refine Xl (i:=34) [o1,o1,o1,o1,o1,o1,o1,o1,o1,o1,o1,o1,o1,o1,o1,o1,o1,o1,o1,o1,o1,o1,o1,o1,o1,o1,o1,o1,o1,o1,o1,o1,o1,o1,o1,o0] rfl (by kernel_rfl) rfl Ary (Bl rfl rfl rfl b47) ?_
    refine Bg (i:=35) [o1,o1,o1,o1,o1,o1,o1,o1,o1,o1,o1,o1,o1,o1,o1,o1,o1,o1,o1,o1,o1,o1,o1,o1,o1,o1,o1,o1,o1,o1,o1,o1,o1,o1,o1,o1] rfl (by kernel_rfl) rfl Ary rfl (Bt rfl b47 (v:=(.bool (true))) rfl) ?_
    refine Ec rfl ?_
    apply k34
    refine Co rfl rfl ?_
    refine w_q rfl rfl fun K48 k48=>?_
    refine l_A (.bool (false)) rfl rfl ?_
    apply Ac
    apply k48
    refine Aj (Arw (Arz (Arz l2 l32) l33)) ?_
    refine Aq ?_
    refine hret _ _ _ ?_
    refine ⟨rfl,rfl,Eq.trans (b:=(.bool (false))) rfl ?_⟩
    have hf:Hm fa fb marks part k = true:=by simp only [Hm,ha18,ha27,ha42,Sx,b9,b47,Bool.true_and,Bool.false_and,Bool.and_true,Bool.and_false,Bool.true_or,Bool.false_or,Bool.or_true,Bool.or_false,Bool.not_true,Bool.not_false]
    rw [Zj (by omega) hf]
   have q47:=of_decide_eq_false b47
   refine Be (i:=18) [o1,o1,o1,o1,o1,o1,o1,o1,o1,o1,o1,o1,o1,o1,o1,o1,o1,o1,o1,o0,o0,o0,o0,o0,o0,o0,o0,o0,o0,o0,o0,o0,o0,o0,o0,o0] rfl (by kernel_rfl) rfl Ary (Ar rfl rfl rfl b47) (Ah (v:=(iV (part))) h5_4) ?_
   refine Cd (i:=19) [o1,o1,o1,o1,o1,o1,o1,o1,o1,o1,o1,o1,o1,o1,o1,o1,o1,o1,o1,o1,o0,o0,o0,o0,o0,o0,o0,o0,o0,o0,o0,o0,o0,o0,o0,o0] rfl (by kernel_rfl) rfl Ary (Ar rfl rfl rfl b47) (Ay Span.f_high Tryd.underlying65 rfl rfl ty3 (by decide) rfl r32) fun v49 r49=>?_
   have ⟨g50a,g50b⟩:=At.rng r49
   refine Be (i:=20) [o1,o1,o1,o1,o1,o1,o1,o1,o1,o1,o1,o1,o1,o1,o1,o1,o1,o1,o1,o1,o1,o0,o0,o0,o0,o0,o0,o0,o0,o0,o0,o0,o0,o0,o0,o0] rfl (by kernel_rfl) rfl Ary (Ar rfl rfl rfl b47) (Bc ty3 rfl r49) ?_
   have mm51:=Aee (p:=part) (x:=a18.high) (by omega) (by omega)
   refine Be (i:=21) [o1,o1,o1,o1,o1,o1,o1,o1,o1,o1,o1,o1,o1,o1,o1,o1,o1,o1,o1,o1,o1,o1,o0,o0,o0,o0,o0,o0,o0,o0,o0,o0,o0,o0,o0,o0] rfl (by kernel_rfl) rfl Ary (Ar rfl rfl rfl b47) (Vz (p:=part) (q:=a18.high) rfl rfl (z:=(part * a18.high)) (Bo rfl (by omega) (by omega))) ?_
   refine Be (i:=22) [o1,o1,o1,o1,o1,o1,o1,o1,o1,o1,o1,o1,o1,o1,o1,o1,o1,o1,o1,o1,o1,o1,o1,o0,o0,o0,o0,o0,o0,o0,o0,o0,o0,o0,o0,o0] rfl (by kernel_rfl) rfl Ary (Ar rfl rfl rfl b47) (Ah (v:=(iV (part))) h5_4) ?_
   refine Be (i:=23) [o1,o1,o1,o1,o1,o1,o1,o1,o1,o1,o1,o1,o1,o1,o1,o1,o1,o1,o1,o1,o1,o1,o1,o1,o0,o0,o0,o0,o0,o0,o0,o0,o0,o0,o0,o0] rfl (by kernel_rfl) rfl Ary (Ar rfl rfl rfl b47) (Oq (p:=100) (q:=part) rfl rfl (z:=(100 - part)) (Bo (by first | rfl | omega | (push_cast; rfl)) (by omega) (by omega))) ?_
   refine Cd (i:=24) [o1,o1,o1,o1,o1,o1,o1,o1,o1,o1,o1,o1,o1,o1,o1,o1,o1,o1,o1,o1,o1,o1,o1,o1,o1,o0,o0,o0,o0,o0,o0,o0,o0,o0,o0,o0] rfl (by kernel_rfl) rfl Ary (Ar rfl rfl rfl b47) (Ay Span.f_high Tryd.underlying65 rfl rfl ty3 (by decide) rfl r33) fun v52 r52=>?_
   have ⟨g53a,g53b⟩:=At.rng r52
   refine Be (i:=25) [o1,o1,o1,o1,o1,o1,o1,o1,o1,o1,o1,o1,o1,o1,o1,o1,o1,o1,o1,o1,o1,o1,o1,o1,o1,o1,o0,o0,o0,o0,o0,o0,o0,o0,o0,o0] rfl (by kernel_rfl) rfl Ary (Ar rfl rfl rfl b47) (Bc ty3 rfl r52) ?_
   have mm54:=Aee (p:=(100 - part)) (x:=a27.high) (by omega) (by omega)
   refine Be (i:=26) [o1,o1,o1,o1,o1,o1,o1,o1,o1,o1,o1,o1,o1,o1,o1,o1,o1,o1,o1,o1,o1,o1,o1,o1,o1,o1,o1,o0,o0,o0,o0,o0,o0,o0,o0,o0] rfl (by kernel_rfl) rfl Ary (Ar rfl rfl rfl b47) (Vz (p:=(100 - part)) (q:=a27.high) rfl rfl (z:=((100 - part) * a27.high)) (Bo rfl (by omega) (by omega))) ?_
   refine Be (i:=27) [o1,o1,o1,o1,o1,o1,o1,o1,o1,o1,o1,o1,o1,o1,o1,o1,o1,o1,o1,o1,o1,o1,o1,o1,o1,o1,o1,o1,o0,o0,o0,o0,o0,o0,o0,o0] rfl (by kernel_rfl) rfl Ary (Ar rfl rfl rfl b47) (Br (p:=(part * a18.high)) (q:=((100 - part) * a27.high)) rfl rfl (z:=((part * a18.high) + ((100 - part) * a27.high))) (Bo (by rfl) (by omega) (by omega))) ?_
   refine Be (i:=28) [o1,o1,o1,o1,o1,o1,o1,o1,o1,o1,o1,o1,o1,o1,o1,o1,o1,o1,o1,o1,o1,o1,o1,o1,o1,o1,o1,o1,o1,o0,o0,o0,o0,o0,o0,o0] rfl (by kernel_rfl) rfl Ary (Ar rfl rfl rfl b47) (Ah (v:=vk) h5_1) ?_
   refine Bg (i:=29) [o1,o1,o1,o1,o1,o1,o1,o1,o1,o1,o1,o1,o1,o1,o1,o1,o1,o1,o1,o1,o1,o1,o1,o1,o1,o1,o1,o1,o1,o1,o0,o0,o0,o0,o0,o0] rfl (by kernel_rfl) rfl Ary (Ar rfl rfl rfl b47) (Ah (v:=(iV ((k:Int)))) h5_11) ?_
   refine Hl (i:=30) [o1,o1,o1,o1,o1,o1,o1,o1,o1,o1,o1,o1,o1,o1,o1,o1,o1,o1,o1,o1,o1,o1,o1,o1,o1,o1,o1,o1,o1,o1,o1,o0,o0,o0,o0,o0] rfl (by kernel_rfl) rfl Ary (Ar rfl rfl rfl b47) (Ci k Tryd.underlying27 Mx rfl rk (q:=(k:Int)) rfl rfl ha42) fun v55 r55=>?_
   refine Hl (i:=31) [o1,o1,o1,o1,o1,o1,o1,o1,o1,o1,o1,o1,o1,o1,o1,o1,o1,o1,o1,o1,o1,o1,o1,o1,o1,o1,o1,o1,o1,o1,o1,o1,o0,o0,o0,o0] rfl (by kernel_rfl) rfl Ary (Ar rfl rfl rfl b47) (Ay Span.f_low Tryd.underlying65 rfl rfl ty3 (by decide) rfl r55) fun v56 r56=>?_
   have ⟨g57a,g57b⟩:=At.rng r56
   refine Bg (i:=32) [o1,o1,o1,o1,o1,o1,o1,o1,o1,o1,o1,o1,o1,o1,o1,o1,o1,o1,o1,o1,o1,o1,o1,o1,o1,o1,o1,o1,o1,o1,o1,o1,o1,o0,o0,o0] rfl (by kernel_rfl) rfl Ary (Ar rfl rfl rfl b47) (Bc ty3 rfl r56) ?_
   have mm58:=Aee (p:=100) (x:=a42.low) (by omega) (by omega)
   refine Bg (i:=33) [o1,o1,o1,o1,o1,o1,o1,o1,o1,o1,o1,o1,o1,o1,o1,o1,o1,o1,o1,o1,o1,o1,o1,o1,o1,o1,o1,o1,o1,o1,o1,o1,o1,o1,o0,o0] rfl (by kernel_rfl) rfl Ary (Ar rfl rfl rfl b47) (Vz (p:=100) (q:=a42.low) rfl rfl (z:=(100 * a42.low)) (Bo rfl (by omega) (by omega))) ?_
   refine Bg (i:=34) [o1,o1,o1,o1,o1,o1,o1,o1,o1,o1,o1,o1,o1,o1,o1,o1,o1,o1,o1,o1,o1,o1,o1,o1,o1,o1,o1,o1,o1,o1,o1,o1,o1,o1,o1,o0] rfl (by kernel_rfl) rfl Ary (Ar rfl rfl rfl b47) (Da (p:=((part * a18.high) + ((100 - part) * a27.high))) (q:=(100 * a42.low)) rfl rfl) ?_
   refine Bg (i:=35) [o1,o1,o1,o1,o1,o1,o1,o1,o1,o1,o1,o1,o1,o1,o1,o1,o1,o1,o1,o1,o1,o1,o1,o1,o1,o1,o1,o1,o1,o1,o1,o1,o1,o1,o1,o1] rfl (by kernel_rfl) rfl Ary rfl (Bm rfl b47 (v:=(.bool (decide (((part * a18.high) + ((100 - part) * a27.high)) < (100 * a42.low))))) rfl) ?_
   refine Ec rfl ?_
   apply k34
   refine As (t:=decide (((part * a18.high) + ((100 - part) * a27.high)) < (100 * a42.low))) rfl (fun b59=>?_) (fun b59=>?_)
   ·have q59:=of_decide_eq_true b59
    refine w_q rfl rfl fun K60 k60=>?_
    refine l_A (.bool (false)) rfl rfl ?_
    apply Ac
    apply k60
    refine Aj (Arw (Arz (Arz l2 l32) l33)) ?_
    refine Aq ?_
    refine hret _ _ _ ?_
    refine ⟨rfl,rfl,Eq.trans (b:=(.bool (false))) rfl ?_⟩
    have hf:Hm fa fb marks part k = true:=by simp only [Hm,ha18,ha27,ha42,Sx,b9,b47,b59,Bool.true_and,Bool.false_and,Bool.and_true,Bool.and_false,Bool.true_or,Bool.false_or,Bool.or_true,Bool.or_false,Bool.not_true,Bool.not_false]
    rw [Zj (by omega) hf]
   have q59:=of_decide_eq_false b59
   refine Al ?_
   apply k10
   refine Ag rfl rfl ?_
   refine Aa rfl (Ah (v:=(iV ((k:Int)))) h5_11) ?_
   refine Aa rfl (Br (p:=(k:Int)) (q:=1) rfl rfl (z:=(((k + 1):Nat):Int)) (Bo (by first | rfl | omega | (push_cast; rfl)) (by omega) (by omega))) ?_
   refine l_A (iV ((((k + 1):Nat):Int))) rfl rfl ?_
   refine Bj (Arw (Arz l32 l33)) ?_
   apply Ac
   refine ⟨_,?_,((k + 1)),rfl,rfl,rfl,rfl,h5_1,h5_2,h5_3,h5_4,h5_5,rfl,(by omega),(Ef p5_1 (by simp only [Hm,ha18,ha27,ha42,Sx,b9,b47,b59,Bool.true_and,Bool.false_and,Bool.and_true,Bool.and_false,Bool.true_or,Bool.false_or,Bool.or_true,Bool.or_false,Bool.not_true,Bool.not_false])),trivial⟩
   omega
  ·refine Ct Yn fun k61=>⟨Ary,?_⟩
   refine Dj (i:=18) [o1,o1,o1,o1,o1,o1,o1,o1,o1,o1,o1,o1,o1,o1,o1,o1,o1,o1,o1,o1,o0,o0] rfl (by kernel_rfl) rfl rfl (Ct Yn fun k62=>⟨Ary,?_⟩)
   refine Fi (i:=20) [o1,o1,o1,o1,o1,o1,o1,o1,o1,o1,o1,o1,o1,o1,o1,o1,o1,o1,o1,o1,o1,o0] rfl (by kernel_rfl) rfl rfl (Du (v:=v20) (a:=a18) (c:=Arg) Mx rfl rfl r20 rfl ⟨Ary,?_⟩)
   refine a_freezeAt (a:=a18) r20 fun ρ63 l63 r63=>?_
   replace rk:=Asa l63 rk
   replace r2:=Arv l63 r2
   replace r12:=Arv l63 r12
   replace r13:=Asa l63 r13
   replace r14:=Arv l63 r14
   replace r15:=Arv l63 r15
   replace r16:=Asa l63 r16
   replace r17:=Arv l63 r17
   replace r20:=Asa l63 r20
   replace r21:=Arv l63 r21
   replace r22:=Asa l63 r22
   replace r23:=Arv l63 r23
   replace r24:=Arv l63 r24
   replace r25:=Asa l63 r25
   replace r26:=Arv l63 r26
   replace r29:=Asa l63 r29
   refine Fi (i:=21) [o1,o1,o1,o1,o1,o1,o1,o1,o1,o1,o1,o1,o1,o1,o1,o1,o1,o1,o1,o1,o1,o1] rfl (by kernel_rfl) rfl rfl (Du (v:=v29) (a:=a27) (c:=Arg) Mx rfl rfl r29 rfl ⟨l63,?_⟩)
   refine Ec rfl ?_
   apply k11
   refine Ng (a:=a27) r29 fun ρ64 l64 r64=>?_
   replace rk:=Asa l64 rk
   replace r2:=Arv l64 r2
   replace r63:=Arv l64 r63
   refine Ai fun K65 k65=>?_
   refine Dc [0,1,2,3,4,5,6,7,8,9,10,11,12,13,14,15,16,17,18,19,20,21,22,23,24,25,26,27,28,29,30,31,32,33,34,35] (by kernel_rfl) rfl rfl ?_
   refine Be (i:=0) [o1,o0,o0,o0,o0,o0,o0,o0,o0,o0,o0,o0,o0,o0,o0,o0,o0,o0,o0,o0,o0,o0,o0,o0,o0,o0,o0,o0,o0,o0,o0,o0,o0,o0,o0,o0] rfl (by kernel_rfl) rfl Ary rfl (Ah (v:=(iV (part))) h5_4) ?_
   refine Cd (i:=1) [o1,o1,o0,o0,o0,o0,o0,o0,o0,o0,o0,o0,o0,o0,o0,o0,o0,o0,o0,o0,o0,o0,o0,o0,o0,o0,o0,o0,o0,o0,o0,o0,o0,o0,o0,o0] rfl (by kernel_rfl) rfl Ary rfl (Ay Span.f_low Tryd.underlying65 rfl rfl ty3 (by decide) rfl r63) fun v66 r66=>?_
   have ⟨g67a,g67b⟩:=At.rng r66
   refine Be (i:=2) [o1,o1,o1,o0,o0,o0,o0,o0,o0,o0,o0,o0,o0,o0,o0,o0,o0,o0,o0,o0,o0,o0,o0,o0,o0,o0,o0,o0,o0,o0,o0,o0,o0,o0,o0,o0] rfl (by kernel_rfl) rfl Ary rfl (Bc ty3 rfl r66) ?_
   have mm68:=Aee (p:=part) (x:=a18.low) (by omega) (by omega)
   refine Be (i:=3) [o1,o1,o1,o1,o0,o0,o0,o0,o0,o0,o0,o0,o0,o0,o0,o0,o0,o0,o0,o0,o0,o0,o0,o0,o0,o0,o0,o0,o0,o0,o0,o0,o0,o0,o0,o0] rfl (by kernel_rfl) rfl Ary rfl (Vz (p:=part) (q:=a18.low) rfl rfl (z:=(part * a18.low)) (Bo rfl (by omega) (by omega))) ?_
   refine Be (i:=4) [o1,o1,o1,o1,o1,o0,o0,o0,o0,o0,o0,o0,o0,o0,o0,o0,o0,o0,o0,o0,o0,o0,o0,o0,o0,o0,o0,o0,o0,o0,o0,o0,o0,o0,o0,o0] rfl (by kernel_rfl) rfl Ary rfl (Ah (v:=(iV (part))) h5_4) ?_
   refine Be (i:=5) [o1,o1,o1,o1,o1,o1,o0,o0,o0,o0,o0,o0,o0,o0,o0,o0,o0,o0,o0,o0,o0,o0,o0,o0,o0,o0,o0,o0,o0,o0,o0,o0,o0,o0,o0,o0] rfl (by kernel_rfl) rfl Ary rfl (Oq (p:=100) (q:=part) rfl rfl (z:=(100 - part)) (Bo (by first | rfl | omega | (push_cast; rfl)) (by omega) (by omega))) ?_
   refine Cd (i:=6) [o1,o1,o1,o1,o1,o1,o1,o0,o0,o0,o0,o0,o0,o0,o0,o0,o0,o0,o0,o0,o0,o0,o0,o0,o0,o0,o0,o0,o0,o0,o0,o0,o0,o0,o0,o0] rfl (by kernel_rfl) rfl Ary rfl (Ay Span.f_low Tryd.underlying65 rfl rfl ty3 (by decide) rfl r64) fun v69 r69=>?_
   have ⟨g70a,g70b⟩:=At.rng r69
   refine Be (i:=7) [o1,o1,o1,o1,o1,o1,o1,o1,o0,o0,o0,o0,o0,o0,o0,o0,o0,o0,o0,o0,o0,o0,o0,o0,o0,o0,o0,o0,o0,o0,o0,o0,o0,o0,o0,o0] rfl (by kernel_rfl) rfl Ary rfl (Bc ty3 rfl r69) ?_
   have mm71:=Aee (p:=(100 - part)) (x:=a27.low) (by omega) (by omega)
   refine Be (i:=8) [o1,o1,o1,o1,o1,o1,o1,o1,o1,o0,o0,o0,o0,o0,o0,o0,o0,o0,o0,o0,o0,o0,o0,o0,o0,o0,o0,o0,o0,o0,o0,o0,o0,o0,o0,o0] rfl (by kernel_rfl) rfl Ary rfl (Vz (p:=(100 - part)) (q:=a27.low) rfl rfl (z:=((100 - part) * a27.low)) (Bo rfl (by omega) (by omega))) ?_
   refine Be (i:=9) [o1,o1,o1,o1,o1,o1,o1,o1,o1,o1,o0,o0,o0,o0,o0,o0,o0,o0,o0,o0,o0,o0,o0,o0,o0,o0,o0,o0,o0,o0,o0,o0,o0,o0,o0,o0] rfl (by kernel_rfl) rfl Ary rfl (Br (p:=(part * a18.low)) (q:=((100 - part) * a27.low)) rfl rfl (z:=((part * a18.low) + ((100 - part) * a27.low))) (Bo (by rfl) (by omega) (by omega))) ?_
   refine Be (i:=10) [o1,o1,o1,o1,o1,o1,o1,o1,o1,o1,o1,o0,o0,o0,o0,o0,o0,o0,o0,o0,o0,o0,o0,o0,o0,o0,o0,o0,o0,o0,o0,o0,o0,o0,o0,o0] rfl (by kernel_rfl) rfl Ary rfl (Ah (v:=vk) h5_1) ?_
   refine Bg (i:=11) [o1,o1,o1,o1,o1,o1,o1,o1,o1,o1,o1,o1,o0,o0,o0,o0,o0,o0,o0,o0,o0,o0,o0,o0,o0,o0,o0,o0,o0,o0,o0,o0,o0,o0,o0,o0] rfl (by kernel_rfl) rfl Ary rfl (Ah (v:=(iV ((k:Int)))) h5_11) ?_
   obtain ⟨a73,ha73⟩:=Ed (xs:=marks) (i:=k) (by first | omega | (have h1:=(ok.fields _ _ hfa).1; have h2:=(ok.fields _ _ hfb).1; omega))
   obtain ⟨o74a,o74b,o74c⟩:=ok.marks _ _ ha73
   refine Hl (i:=12) [o1,o1,o1,o1,o1,o1,o1,o1,o1,o1,o1,o1,o1,o0,o0,o0,o0,o0,o0,o0,o0,o0,o0,o0,o0,o0,o0,o0,o0,o0,o0,o0,o0,o0,o0,o0] rfl (by kernel_rfl) rfl Ary rfl (Ci k Tryd.underlying27 Mx rfl rk (q:=(k:Int)) rfl rfl ha73) fun v72 r72=>?_
   refine Hl (i:=13) [o1,o1,o1,o1,o1,o1,o1,o1,o1,o1,o1,o1,o1,o1,o0,o0,o0,o0,o0,o0,o0,o0,o0,o0,o0,o0,o0,o0,o0,o0,o0,o0,o0,o0,o0,o0] rfl (by kernel_rfl) rfl Ary rfl (Ay Span.f_high Tryd.underlying65 rfl rfl ty3 (by decide) rfl r72) fun v75 r75=>?_
   have ⟨g76a,g76b⟩:=At.rng r75
   refine Bg (i:=14) [o1,o1,o1,o1,o1,o1,o1,o1,o1,o1,o1,o1,o1,o1,o1,o0,o0,o0,o0,o0,o0,o0,o0,o0,o0,o0,o0,o0,o0,o0,o0,o0,o0,o0,o0,o0] rfl (by kernel_rfl) rfl Ary rfl (Bc ty3 rfl r75) ?_
   have mm77:=Aee (p:=100) (x:=a73.high) (by omega) (by omega)
   refine Bg (i:=15) [o1,o1,o1,o1,o1,o1,o1,o1,o1,o1,o1,o1,o1,o1,o1,o1,o0,o0,o0,o0,o0,o0,o0,o0,o0,o0,o0,o0,o0,o0,o0,o0,o0,o0,o0,o0] rfl (by kernel_rfl) rfl Ary rfl (Vz (p:=100) (q:=a73.high) rfl rfl (z:=(100 * a73.high)) (Bo rfl (by omega) (by omega))) ?_
   refine Bg (i:=16) [o1,o1,o1,o1,o1,o1,o1,o1,o1,o1,o1,o1,o1,o1,o1,o1,o1,o0,o0,o0,o0,o0,o0,o0,o0,o0,o0,o0,o0,o0,o0,o0,o0,o0,o0,o0] rfl (by kernel_rfl) rfl Ary rfl (Gk (p:=((part * a18.low) + ((100 - part) * a27.low))) (q:=(100 * a73.high)) rfl rfl) ?_
   refine Bg (i:=17) [o1,o1,o1,o1,o1,o1,o1,o1,o1,o1,o1,o1,o1,o1,o1,o1,o1,o1,o0,o0,o0,o0,o0,o0,o0,o0,o0,o0,o0,o0,o0,o0,o0,o0,o0,o0] rfl (by kernel_rfl) rfl Ary rfl (Ah (v:=(.bool (decide (((part * a18.low) + ((100 - part) * a27.low)) > (100 * a73.high))))) rfl) ?_
   refine Akl (decide (((part * a18.low) + ((100 - part) * a27.low)) > (100 * a73.high))) (fun b78=>?_) (fun b78=>?_)
   ·have q78:=of_decide_eq_true b78
    refine Ua (i:=18) [o1,o1,o1,o1,o1,o1,o1,o1,o1,o1,o1,o1,o1,o1,o1,o1,o1,o1,o1,o0,o0,o0,o0,o0,o0,o0,o0,o0,o0,o0,o0,o0,o0,o0,o0,o0] rfl (by kernel_rfl) rfl Ary (Bl rfl rfl rfl b78) ?_
    refine Ua (i:=19) [o1,o1,o1,o1,o1,o1,o1,o1,o1,o1,o1,o1,o1,o1,o1,o1,o1,o1,o1,o1,o0,o0,o0,o0,o0,o0,o0,o0,o0,o0,o0,o0,o0,o0,o0,o0] rfl (by kernel_rfl) rfl Ary (Bl rfl rfl rfl b78) ?_
    refine Ua (i:=20) [o1,o1,o1,o1,o1,o1,o1,o1,o1,o1,o1,o1,o1,o1,o1,o1,o1,o1,o1,o1,o1,o0,o0,o0,o0,o0,o0,o0,o0,o0,o0,o0,o0,o0,o0,o0] rfl (by kernel_rfl) rfl Ary (Bl rfl rfl rfl b78) ?_
    refine Ua (i:=21) [o1,o1,o1,o1,o1,o1,o1,o1,o1,o1,o1,o1,o1,o1,o1,o1,o1,o1,o1,o1,o1,o1,o0,o0,o0,o0,o0,o0,o0,o0,o0,o0,o0,o0,o0,o0] rfl (by kernel_rfl) rfl Ary (Bl rfl rfl rfl b78) ?_
    refine Ua (i:=22) [o1,o1,o1,o1,o1,o1,o1,o1,o1,o1,o1,o1,o1,o1,o1,o1,o1,o1,o1,o1,o1,o1,o1,o0,o0,o0,o0,o0,o0,o0,o0,o0,o0,o0,o0,o0] rfl (by kernel_rfl) rfl Ary (Bl rfl rfl rfl b78) ?_
    refine Ua (i:=23) [o1,o1,o1,o1,o1,o1,o1,o1,o1,o1,o1,o1,o1,o1,o1,o1,o1,o1,o1,o1,o1,o1,o1,o1,o0,o0,o0,o0,o0,o0,o0,o0,o0,o0,o0,o0] rfl (by kernel_rfl) rfl Ary (Bl rfl rfl rfl b78) ?_
    refine Ua (i:=24) [o1,o1,o1,o1,o1,o1,o1,o1,o1,o1,o1,o1,o1,o1,o1,o1,o1,o1,o1,o1,o1,o1,o1,o1,o1,o0,o0,o0,o0,o0,o0,o0,o0,o0,o0,o0] rfl (by kernel_rfl) rfl Ary (Bl rfl rfl rfl b78) ?_
    refine Ua (i:=25) [o1,o1,o1,o1,o1,o1,o1,o1,o1,o1,o1,o1,o1,o1,o1,o1,o1,o1,o1,o1,o1,o1,o1,o1,o1,o1,o0,o0,o0,o0,o0,o0,o0,o0,o0,o0] rfl (by kernel_rfl) rfl Ary (Bl rfl rfl rfl b78) ?_
    refine Ua (i:=26) [o1,o1,o1,o1,o1,o1,o1,o1,o1,o1,o1,o1,o1,o1,o1,o1,o1,o1,o1,o1,o1,o1,o1,o1,o1,o1,o1,o0,o0,o0,o0,o0,o0,o0,o0,o0] rfl (by kernel_rfl) rfl Ary (Bl rfl rfl rfl b78) ?_
    refine Ua (i:=27) [o1,o1,o1,o1,o1,o1,o1,o1,o1,o1,o1,o1,o1,o1,o1,o1,o1,o1,o1,o1,o1,o1,o1,o1,o1,o1,o1,o1,o0,o0,o0,o0,o0,o0,o0,o0] rfl (by kernel_rfl) rfl Ary (Bl rfl rfl rfl b78) ?_
    refine Ua (i:=28) [o1,o1,o1,o1,o1,o1,o1,o1,o1,o1,o1,o1,o1,o1,o1,o1,o1,o1,o1,o1,o1,o1,o1,o1,o1,o1,o1,o1,o1,o0,o0,o0,o0,o0,o0,o0] rfl (by kernel_rfl) rfl Ary (Bl rfl rfl rfl b78) ?_
    refine Xl (i:=29) [o1,o1,o1,o1,o1,o1,o1,o1,o1,o1,o1,o1,o1,o1,o1,o1,o1,o1,o1,o1,o1,o1,o1,o1,o1,o1,o1,o1,o1,o1,o0,o0,o0,o0,o0,o0] rfl (by kernel_rfl) rfl Ary (Bl rfl rfl rfl b78) ?_
    refine Xl (i:=30) [o1,o1,o1,o1,o1,o1,o1,o1,o1,o1,o1,o1,o1,o1,o1,o1,o1,o1,o1,o1,o1,o1,o1,o1,o1,o1,o1,o1,o1,o1,o1,o0,o0,o0,o0,o0] rfl (by kernel_rfl) rfl Ary (Bl rfl rfl rfl b78) ?_
    refine Xl (i:=31) [o1,o1,o1,o1,o1,o1,o1,o1,o1,o1,o1,o1,o1,o1,o1,o1,o1,o1,o1,o1,o1,o1,o1,o1,o1,o1,o1,o1,o1,o1,o1,o1,o0,o0,o0,o0] rfl (by kernel_rfl) rfl Ary (Bl rfl rfl rfl b78) ?_
    refine Xl (i:=32) [o1,o1,o1,o1,o1,o1,o1,o1,o1,o1,o1,o1,o1,o1,o1,o1,o1,o1,o1,o1,o1,o1,o1,o1,o1,o1,o1,o1,o1,o1,o1,o1,o1,o0,o0,o0] rfl (by kernel_rfl) rfl Ary (Bl rfl rfl rfl b78) ?_
    refine Xl (i:=33) [o1,o1,o1,o1,o1,o1,o1,o1,o1,o1,o1,o1,o1,o1,o1,o1,o1,o1,o1,o1,o1,o1,o1,o1,o1,o1,o1,o1,o1,o1,o1,o1,o1,o1,o0,o0] rfl (by kernel_rfl) rfl Ary (Bl rfl rfl rfl b78) ?_
    refine Xl (i:=34) [o1,o1,o1,o1,o1,o1,o1,o1,o1,o1,o1,o1,o1,o1,o1,o1,o1,o1,o1,o1,o1,o1,o1,o1,o1,o1,o1,o1,o1,o1,o1,o1,o1,o1,o1,o0] rfl (by kernel_rfl) rfl Ary (Bl rfl rfl rfl b78) ?_
    refine Bg (i:=35) [o1,o1,o1,o1,o1,o1,o1,o1,o1,o1,o1,o1,o1,o1,o1,o1,o1,o1,o1,o1,o1,o1,o1,o1,o1,o1,o1,o1,o1,o1,o1,o1,o1,o1,o1,o1] rfl (by kernel_rfl) rfl Ary rfl (Bt rfl b78 (v:=(.bool (true))) rfl) ?_
    refine Ec rfl ?_
    apply k65
    refine Co rfl rfl ?_
    refine w_q rfl rfl fun K79 k79=>?_
    refine l_A (.bool (false)) rfl rfl ?_
    apply Ac
    apply k79
    refine Aj (Arw (Arz (Arz l2 l63) l64)) ?_
    refine Aq ?_
    refine hret _ _ _ ?_
    refine ⟨rfl,rfl,Eq.trans (b:=(.bool (false))) rfl ?_⟩
    have hf:Hm fa fb marks part k = true:=by simp only [Hm,ha18,ha27,ha73,Sx,b9,b78,Bool.true_and,Bool.false_and,Bool.and_true,Bool.and_false,Bool.true_or,Bool.false_or,Bool.or_true,Bool.or_false,Bool.not_true,Bool.not_false]
    rw [Zj (by omega) hf]
   have q78:=of_decide_eq_false b78
   refine Be (i:=18) [o1,o1,o1,o1,o1,o1,o1,o1,o1,o1,o1,o1,o1,o1,o1,o1,o1,o1,o1,o0,o0,o0,o0,o0,o0,o0,o0,o0,o0,o0,o0,o0,o0,o0,o0,o0] rfl (by kernel_rfl) rfl Ary (Ar rfl rfl rfl b78) (Ah (v:=(iV (part))) h5_4) ?_
   refine Cd (i:=19) [o1,o1,o1,o1,o1,o1,o1,o1,o1,o1,o1,o1,o1,o1,o1,o1,o1,o1,o1,o1,o0,o0,o0,o0,o0,o0,o0,o0,o0,o0,o0,o0,o0,o0,o0,o0] rfl (by kernel_rfl) rfl Ary (Ar rfl rfl rfl b78) (Ay Span.f_high Tryd.underlying65 rfl rfl ty3 (by decide) rfl r63) fun v80 r80=>?_
   have ⟨g81a,g81b⟩:=At.rng r80
   refine Be (i:=20) [o1,o1,o1,o1,o1,o1,o1,o1,o1,o1,o1,o1,o1,o1,o1,o1,o1,o1,o1,o1,o1,o0,o0,o0,o0,o0,o0,o0,o0,o0,o0,o0,o0,o0,o0,o0] rfl (by kernel_rfl) rfl Ary (Ar rfl rfl rfl b78) (Bc ty3 rfl r80) ?_
   have mm82:=Aee (p:=part) (x:=a18.high) (by omega) (by omega)
   refine Be (i:=21) [o1,o1,o1,o1,o1,o1,o1,o1,o1,o1,o1,o1,o1,o1,o1,o1,o1,o1,o1,o1,o1,o1,o0,o0,o0,o0,o0,o0,o0,o0,o0,o0,o0,o0,o0,o0] rfl (by kernel_rfl) rfl Ary (Ar rfl rfl rfl b78) (Vz (p:=part) (q:=a18.high) rfl rfl (z:=(part * a18.high)) (Bo rfl (by omega) (by omega))) ?_
   refine Be (i:=22) [o1,o1,o1,o1,o1,o1,o1,o1,o1,o1,o1,o1,o1,o1,o1,o1,o1,o1,o1,o1,o1,o1,o1,o0,o0,o0,o0,o0,o0,o0,o0,o0,o0,o0,o0,o0] rfl (by kernel_rfl) rfl Ary (Ar rfl rfl rfl b78) (Ah (v:=(iV (part))) h5_4) ?_
   refine Be (i:=23) [o1,o1,o1,o1,o1,o1,o1,o1,o1,o1,o1,o1,o1,o1,o1,o1,o1,o1,o1,o1,o1,o1,o1,o1,o0,o0,o0,o0,o0,o0,o0,o0,o0,o0,o0,o0] rfl (by kernel_rfl) rfl Ary (Ar rfl rfl rfl b78) (Oq (p:=100) (q:=part) rfl rfl (z:=(100 - part)) (Bo (by first | rfl | omega | (push_cast; rfl)) (by omega) (by omega))) ?_
   refine Cd (i:=24) [o1,o1,o1,o1,o1,o1,o1,o1,o1,o1,o1,o1,o1,o1,o1,o1,o1,o1,o1,o1,o1,o1,o1,o1,o1,o0,o0,o0,o0,o0,o0,o0,o0,o0,o0,o0] rfl (by kernel_rfl) rfl Ary (Ar rfl rfl rfl b78) (Ay Span.f_high Tryd.underlying65 rfl rfl ty3 (by decide) rfl r64) fun v83 r83=>?_
   have ⟨g84a,g84b⟩:=At.rng r83
   refine Be (i:=25) [o1,o1,o1,o1,o1,o1,o1,o1,o1,o1,o1,o1,o1,o1,o1,o1,o1,o1,o1,o1,o1,o1,o1,o1,o1,o1,o0,o0,o0,o0,o0,o0,o0,o0,o0,o0] rfl (by kernel_rfl) rfl Ary (Ar rfl rfl rfl b78) (Bc ty3 rfl r83) ?_
   have mm85:=Aee (p:=(100 - part)) (x:=a27.high) (by omega) (by omega)
   refine Be (i:=26) [o1,o1,o1,o1,o1,o1,o1,o1,o1,o1,o1,o1,o1,o1,o1,o1,o1,o1,o1,o1,o1,o1,o1,o1,o1,o1,o1,o0,o0,o0,o0,o0,o0,o0,o0,o0] rfl (by kernel_rfl) rfl Ary (Ar rfl rfl rfl b78) (Vz (p:=(100 - part)) (q:=a27.high) rfl rfl (z:=((100 - part) * a27.high)) (Bo rfl (by omega) (by omega))) ?_
   refine Be (i:=27) [o1,o1,o1,o1,o1,o1,o1,o1,o1,o1,o1,o1,o1,o1,o1,o1,o1,o1,o1,o1,o1,o1,o1,o1,o1,o1,o1,o1,o0,o0,o0,o0,o0,o0,o0,o0] rfl (by kernel_rfl) rfl Ary (Ar rfl rfl rfl b78) (Br (p:=(part * a18.high)) (q:=((100 - part) * a27.high)) rfl rfl (z:=((part * a18.high) + ((100 - part) * a27.high))) (Bo (by rfl) (by omega) (by omega))) ?_
   refine Be (i:=28) [o1,o1,o1,o1,o1,o1,o1,o1,o1,o1,o1,o1,o1,o1,o1,o1,o1,o1,o1,o1,o1,o1,o1,o1,o1,o1,o1,o1,o1,o0,o0,o0,o0,o0,o0,o0] rfl (by kernel_rfl) rfl Ary (Ar rfl rfl rfl b78) (Ah (v:=vk) h5_1) ?_
   refine Bg (i:=29) [o1,o1,o1,o1,o1,o1,o1,o1,o1,o1,o1,o1,o1,o1,o1,o1,o1,o1,o1,o1,o1,o1,o1,o1,o1,o1,o1,o1,o1,o1,o0,o0,o0,o0,o0,o0] rfl (by kernel_rfl) rfl Ary (Ar rfl rfl rfl b78) (Ah (v:=(iV ((k:Int)))) h5_11) ?_
   refine Hl (i:=30) [o1,o1,o1,o1,o1,o1,o1,o1,o1,o1,o1,o1,o1,o1,o1,o1,o1,o1,o1,o1,o1,o1,o1,o1,o1,o1,o1,o1,o1,o1,o1,o0,o0,o0,o0,o0] rfl (by kernel_rfl) rfl Ary (Ar rfl rfl rfl b78) (Ci k Tryd.underlying27 Mx rfl rk (q:=(k:Int)) rfl rfl ha73) fun v86 r86=>?_
   refine Hl (i:=31) [o1,o1,o1,o1,o1,o1,o1,o1,o1,o1,o1,o1,o1,o1,o1,o1,o1,o1,o1,o1,o1,o1,o1,o1,o1,o1,o1,o1,o1,o1,o1,o1,o0,o0,o0,o0] rfl (by kernel_rfl) rfl Ary (Ar rfl rfl rfl b78) (Ay Span.f_low Tryd.underlying65 rfl rfl ty3 (by decide) rfl r86) fun v87 r87=>?_
   have ⟨g88a,g88b⟩:=At.rng r87
   refine Bg (i:=32) [o1,o1,o1,o1,o1,o1,o1,o1,o1,o1,o1,o1,o1,o1,o1,o1,o1,o1,o1,o1,o1,o1,o1,o1,o1,o1,o1,o1,o1,o1,o1,o1,o1,o0,o0,o0] rfl (by kernel_rfl) rfl Ary (Ar rfl rfl rfl b78) (Bc ty3 rfl r87) ?_
   have mm89:=Aee (p:=100) (x:=a73.low) (by omega) (by omega)
   refine Bg (i:=33) [o1,o1,o1,o1,o1,o1,o1,o1,o1,o1,o1,o1,o1,o1,o1,o1,o1,o1,o1,o1,o1,o1,o1,o1,o1,o1,o1,o1,o1,o1,o1,o1,o1,o1,o0,o0] rfl (by kernel_rfl) rfl Ary (Ar rfl rfl rfl b78) (Vz (p:=100) (q:=a73.low) rfl rfl (z:=(100 * a73.low)) (Bo rfl (by omega) (by omega))) ?_
   refine Bg (i:=34) [o1,o1,o1,o1,o1,o1,o1,o1,o1,o1,o1,o1,o1,o1,o1,o1,o1,o1,o1,o1,o1,o1,o1,o1,o1,o1,o1,o1,o1,o1,o1,o1,o1,o1,o1,o0] rfl (by kernel_rfl) rfl Ary (Ar rfl rfl rfl b78) (Da (p:=((part * a18.high) + ((100 - part) * a27.high))) (q:=(100 * a73.low)) rfl rfl) ?_
   refine Bg (i:=35) [o1,o1,o1,o1,o1,o1,o1,o1,o1,o1,o1,o1,o1,o1,o1,o1,o1,o1,o1,o1,o1,o1,o1,o1,o1,o1,o1,o1,o1,o1,o1,o1,o1,o1,o1,o1] rfl (by kernel_rfl) rfl Ary rfl (Bm rfl b78 (v:=(.bool (decide (((part * a18.high) + ((100 - part) * a27.high)) < (100 * a73.low))))) rfl) ?_
   refine Ec rfl ?_
   apply k65
   refine As (t:=decide (((part * a18.high) + ((100 - part) * a27.high)) < (100 * a73.low))) rfl (fun b90=>?_) (fun b90=>?_)
   ·have q90:=of_decide_eq_true b90
    refine w_q rfl rfl fun K91 k91=>?_
    refine l_A (.bool (false)) rfl rfl ?_
    apply Ac
    apply k91
    refine Aj (Arw (Arz (Arz l2 l63) l64)) ?_
    refine Aq ?_
    refine hret _ _ _ ?_
    refine ⟨rfl,rfl,Eq.trans (b:=(.bool (false))) rfl ?_⟩
    have hf:Hm fa fb marks part k = true:=by simp only [Hm,ha18,ha27,ha73,Sx,b9,b78,b90,Bool.true_and,Bool.false_and,Bool.and_true,Bool.and_false,Bool.true_or,Bool.false_or,Bool.or_true,Bool.or_false,Bool.not_true,Bool.not_false]
    rw [Zj (by omega) hf]
   have q90:=of_decide_eq_false b90
   refine Al ?_
   apply k10
   refine Ag rfl rfl ?_
   refine Aa rfl (Ah (v:=(iV ((k:Int)))) h5_11) ?_
   refine Aa rfl (Br (p:=(k:Int)) (q:=1) rfl rfl (z:=(((k + 1):Nat):Int)) (Bo (by first | rfl | omega | (push_cast; rfl)) (by omega) (by omega))) ?_
   refine l_A (iV ((((k + 1):Nat):Int))) rfl rfl ?_
   refine Bj (Arw (Arz l63 l64)) ?_
   apply Ac
   refine ⟨_,?_,((k + 1)),rfl,rfl,rfl,rfl,h5_1,h5_2,h5_3,h5_4,h5_5,rfl,(by omega),(Ef p5_1 (by simp only [Hm,ha18,ha27,ha73,Sx,b9,b78,b90,Bool.true_and,Bool.false_and,Bool.and_true,Bool.and_false,Bool.true_or,Bool.false_or,Bool.or_true,Bool.or_false,Bool.not_true,Bool.not_false])),trivial⟩
   omega
 have q9:=of_decide_eq_false b9
 refine Bx ?_
 apply k3
 refine w_q rfl rfl fun K92 k92=>?_
 refine l_A (.bool (true)) rfl rfl ?_
 apply Ac
 apply k92
 refine Aj (Arw l2) ?_
 refine Aq ?_
 refine hret _ _ _ ?_
 refine ⟨rfl,rfl,Eq.trans (b:=(.bool (true))) rfl ?_⟩
 rw [Aji fun k hk=>p5_1 k (by omega)]
end Go.Proofs.YtoefdnbaklajeaaDoor

namespace Go.Proofs.YtoefdnbaklajeaaDoor
open Go
theorem not_mem_of {l:List Int} {n:Int} (h:∀ j,j < l.length→l[j]? ≠ some n):n ∉ l:=fun hm=>by
  obtain ⟨i,hi⟩:=List.getElem?_of_mem hm
  exact h i (List.getElem?_eq_some_iff.1 hi).1 hi
end Go.Proofs.YtoefdnbaklajeaaDoor

namespace Go.Proofs.YtoefdnbaklajeaaDoor
open Go
set_option maxRecDepth 100000 in
theorem c_has {mn:Bool} {X:Frame→List Frame→Ro→Own→Cy→Prop} {ρ:Ro} {σ:Own} {l:List Int} {vl:Value} {n:Int} (rl:Val ρ vl l):CallsH (CX mn X) 33 #[vl,(iV (n))] ρ σ (fun w ρ' σ'=>ρ' = ρ∧σ' = σ∧w = (.bool (decide (n ∈ l)))):=by
 refine Bh (n:=18) (args:=[vl,(iV (n))]) [4] Tryd.func33 rfl rfl rfl rfl fun Q hret hnor=>?_
 refine w_q rfl rfl fun K1 k1=>?_
 refine l_A (.bool (false)) rfl rfl ?_
 apply Ac
 apply k1
 refine Ai fun K2 k2=>?_
 refine w_q rfl rfl fun K3 k3=>?_
 refine l_A (iV (0)) rfl rfl ?_
 apply Ac
 apply k3
 refine Ao ?_
 refine Cc (fun mm ee dd ρ' σ'=>∃ (i:Nat),(l.length - i) = mm∧[] = dd∧ρ = ρ'∧σ = σ'∧ee 0 = vl∧ee 1 = (iV (n))∧ee 5 = (iV ((i:Int)))∧(i ≤ l.length)∧(∀ j,j < i→l[j]? ≠ some n)∧True) (m:=_) ⟨0,rfl,rfl,rfl,rfl,rfl,rfl,rfl,(Nat.zero_le _),(fun j h=>absurd h (Nat.not_lt_zero _)),trivial⟩ ?_
 rintro m4 e4 _ _ _ ⟨i,rfl,rfl,rfl,rfl,h4_0,h4_1,h4_5,p4_0,p4_1,_⟩
 refine Ai fun K5 k5=>?_
 refine w_q rfl rfl fun K6 k6=>?_
 refine Aa rfl (Ah (v:=(iV ((i:Int)))) h4_5) ?_
 refine Aa rfl (Ah (v:=vl) h4_0) ?_
 have g7:=Val.len rl
 refine Aa rfl (Ce (el:=3) Tryd.underlying30 rfl rl) ?_
 refine Aa rfl (Da (p:=(i:Int)) (q:=((l.length:Nat):Int)) rfl rfl) ?_
 apply Ac
 apply k6
 refine As (t:=decide ((i:Int) < ((l.length:Nat):Int))) rfl (fun b8=>?_) (fun b8=>?_)
 ·have q8:=of_decide_eq_true b8
  refine Al ?_
  apply k5
  refine Ai fun K9 k9=>?_
  refine Ao ?_
  refine w_q rfl rfl fun K10 k10=>?_
  refine Aa rfl (Ah (v:=vl) h4_0) ?_
  refine Aa rfl (Ah (v:=(iV ((i:Int)))) h4_5) ?_
  obtain ⟨a12,ha12⟩:=Ed (xs:=l) (i:=i) (by omega)
  refine Ak rfl (Ci i Tryd.underlying30 ty3 rfl rl (q:=(i:Int)) rfl rfl ha12) fun v11 r11=>?_
  have ⟨g13a,g13b⟩:=At.rng r11
  refine Aa rfl (Bc ty3 rfl r11) ?_
  refine Aa rfl (Ah (v:=(iV (n))) h4_1) ?_
  refine Aa rfl (Ek (p:=a12) (q:=n) rfl rfl) ?_
  apply Ac
  apply k10
  refine As (t:=a12 == n) rfl (fun b14=>?_) (fun b14=>?_)
  ·have q14:=Jo b14
   refine w_q rfl rfl fun K15 k15=>?_
   refine l_A (.bool (true)) rfl rfl ?_
   apply Ac
   apply k15
   refine Aq ?_
   refine hret _ _ _ ?_
   refine ⟨rfl,rfl,Eq.trans (b:=(.bool (true))) rfl ?_⟩
   rw [decide_eq_true (List.mem_of_getElem? (i:=i) (by rw [ha12,q14]))]
  have q14:=La b14
  refine Al ?_
  apply k9
  refine Ag rfl rfl ?_
  refine Aa rfl (Ah (v:=(iV ((i:Int)))) h4_5) ?_
  refine Aa rfl (Br (p:=(i:Int)) (q:=1) rfl rfl (z:=(((i + 1):Nat):Int)) (Bo (by first | rfl | omega | (push_cast; rfl)) (by omega) (by omega))) ?_
  refine l_A (iV ((((i + 1):Nat):Int))) rfl rfl ?_
  apply Ac
  refine ⟨_,?_,((i + 1)),rfl,rfl,rfl,rfl,h4_0,h4_1,rfl,(by omega),(Ef p4_1 (fun h=>by rw [ha12] at h; injection h with h1; exact q14 h1)),trivial⟩
  omega
 have q8:=of_decide_eq_false b8
 refine Bx ?_
 apply k2
 refine w_q rfl rfl fun K16 k16=>?_
 refine l_A (.bool (false)) rfl rfl ?_
 apply Ac
 apply k16
 refine Aq ?_
 refine hret _ _ _ ?_
 refine ⟨rfl,rfl,Eq.trans (b:=(.bool (false))) rfl ?_⟩
 rw [decide_eq_false (not_mem_of fun j hj=>p4_1 j (by omega))]
end Go.Proofs.YtoefdnbaklajeaaDoor

namespace Go.Proofs.YtoefdnbaklajeaaDoor
open Go
set_option maxRecDepth 100000 in
theorem c_Vast {mn:Bool} {X:Frame→List Frame→Ro→Own→Cy→Prop} {ρ:Ro} {σ:Own} {m:Market} {vm:Value} (rm:Val ρ vm m):CallsH (CX mn X) 16 #[vm] ρ σ (fun w ρ' σ'=>ρ' = ρ∧σ' = σ∧∃ b,w = .bool b):=by
 refine Bh (n:=101) (args:=[vm]) [2] Tryd.func16 rfl rfl rfl rfl fun Q hret hnor=>?_
 refine w_q rfl rfl fun K1 k1=>?_
 refine Ae rfl (Eb (v:=vm) rfl fun k2=>?_)
 refine Bb (a:=m) rm fun ρ2 l2 r2=>?_
 replace rm:=Asa l2 rm
 refine l_A (.bool (false)) rfl rfl ?_
 apply Ac
 apply k1
 refine Ai fun K3 k3=>?_
 refine w_q rfl rfl fun K4 k4=>?_
 refine Ak rfl (Ay Market.f_houses Tryd.underlying26 rfl rfl Hu (by decide) rfl r2) fun v5 r5=>?_
 refine Ak rfl (Ax Hu rfl r5) fun v6 r6=>?_
 have g7:=Val.len r6
 refine Aa rfl (Ce (el:=9) Tryd.underlying22 rfl r6) ?_
 refine Aa rfl (Gk (p:=((m.houses.length:Nat):Int)) (q:=40) rfl rfl) ?_
 refine l_M (.bool (decide (((m.houses.length:Nat):Int) > 40))) rfl rfl ?_
 refine Cn (decide (((m.houses.length:Nat):Int) > 40)) (fun b8=>?_) (fun b8=>?_)
 ·have q8:=of_decide_eq_true b8
  refine Ap (Bl rfl rfl rfl b8) ?_
  refine Ap (Bl rfl rfl rfl b8) ?_
  refine Ap (Bl rfl rfl rfl b8) ?_
  refine Ap (Bl rfl rfl rfl b8) ?_
  refine Aa rfl (Bt rfl b8 (v:=(.bool (true))) rfl) ?_
  refine l_M (.bool (true)) rfl rfl ?_
  refine Ap (Bl rfl rfl rfl rfl) ?_
  refine Ap (Bl rfl rfl rfl rfl) ?_
  refine Ap (Bl rfl rfl rfl rfl) ?_
  refine Ap (Bl rfl rfl rfl rfl) ?_
  refine Aa rfl (Bt rfl rfl (v:=(.bool (true))) rfl) ?_
  refine l_M (.bool (true)) rfl rfl ?_
  refine Ap (Bl rfl rfl rfl rfl) ?_
  refine Ap (Bl rfl rfl rfl rfl) ?_
  refine Ap (Bl rfl rfl rfl rfl) ?_
  refine Ap (Bl rfl rfl rfl rfl) ?_
  refine Aa rfl (Bt rfl rfl (v:=(.bool (true))) rfl) ?_
  apply Ac
  apply k4
  refine Co rfl rfl ?_
  refine w_q rfl rfl fun K9 k9=>?_
  refine l_A (.bool (true)) rfl rfl ?_
  apply Ac
  apply k9
  refine Aj (Arw l2) ?_
  refine Aq ?_
  refine hret _ _ _ ?_
  exact ⟨rfl,rfl,_,rfl⟩
 have q8:=of_decide_eq_false b8
 refine Ak (Ar rfl rfl rfl b8) (Ay Market.f_marks Tryd.underlying26 rfl rfl Hu (by decide) rfl r2) fun v10 r10=>?_
 refine Ak (Ar rfl rfl rfl b8) (Ax Hu rfl r10) fun v11 r11=>?_
 have g12:=Val.len r11
 refine Aa (Ar rfl rfl rfl b8) (Ce (el:=9) Tryd.underlying22 rfl r11) ?_
 refine Aa (Ar rfl rfl rfl b8) (Gk (p:=((m.marks.length:Nat):Int)) (q:=40) rfl rfl) ?_
 refine Aa rfl (Bm rfl b8 (v:=(.bool (decide (((m.marks.length:Nat):Int) > 40)))) rfl) ?_
 refine l_M (.bool (decide (((m.marks.length:Nat):Int) > 40))) rfl rfl ?_
 refine Cn (decide (((m.marks.length:Nat):Int) > 40)) (fun b13=>?_) (fun b13=>?_)
 ·have q13:=of_decide_eq_true b13
  refine Ap (Bl rfl rfl rfl b13) ?_
  refine Ap (Bl rfl rfl rfl b13) ?_
  refine Ap (Bl rfl rfl rfl b13) ?_
  refine Ap (Bl rfl rfl rfl b13) ?_
  refine Aa rfl (Bt rfl b13 (v:=(.bool (true))) rfl) ?_
  refine l_M (.bool (true)) rfl rfl ?_
  refine Ap (Bl rfl rfl rfl rfl) ?_
  refine Ap (Bl rfl rfl rfl rfl) ?_
  refine Ap (Bl rfl rfl rfl rfl) ?_
  refine Ap (Bl rfl rfl rfl rfl) ?_
  refine Aa rfl (Bt rfl rfl (v:=(.bool (true))) rfl) ?_
  apply Ac
  apply k4
  refine Co rfl rfl ?_
  refine w_q rfl rfl fun K14 k14=>?_
  refine l_A (.bool (true)) rfl rfl ?_
  apply Ac
  apply k14
  refine Aj (Arw l2) ?_
  refine Aq ?_
  refine hret _ _ _ ?_
  exact ⟨rfl,rfl,_,rfl⟩
 have q13:=of_decide_eq_false b13
 refine Ak (Ar rfl rfl rfl b13) (Ay Market.f_fields Tryd.underlying26 rfl rfl Se (by decide) rfl r2) fun v15 r15=>?_
 refine Ak (Ar rfl rfl rfl b13) (Ax Se rfl r15) fun v16 r16=>?_
 have g17:=Val.len r16
 refine Aa (Ar rfl rfl rfl b13) (Ce (el:=67) Tryd.underlying23 rfl r16) ?_
 refine Aa (Ar rfl rfl rfl b13) (Gk (p:=((m.fields.length:Nat):Int)) (q:=40) rfl rfl) ?_
 refine Aa rfl (Bm rfl b13 (v:=(.bool (decide (((m.fields.length:Nat):Int) > 40)))) rfl) ?_
 refine l_M (.bool (decide (((m.fields.length:Nat):Int) > 40))) rfl rfl ?_
 refine Cn (decide (((m.fields.length:Nat):Int) > 40)) (fun b18=>?_) (fun b18=>?_)
 ·have q18:=of_decide_eq_true b18
  refine Ap (Bl rfl rfl rfl b18) ?_
  refine Ap (Bl rfl rfl rfl b18) ?_
  refine Ap (Bl rfl rfl rfl b18) ?_
  refine Ap (Bl rfl rfl rfl b18) ?_
  refine Aa rfl (Bt rfl b18 (v:=(.bool (true))) rfl) ?_
  apply Ac
  apply k4
  refine Co rfl rfl ?_
  refine w_q rfl rfl fun K19 k19=>?_
  refine l_A (.bool (true)) rfl rfl ?_
  apply Ac
  apply k19
  refine Aj (Arw l2) ?_
  refine Aq ?_
  refine hret _ _ _ ?_
  exact ⟨rfl,rfl,_,rfl⟩
 have q18:=of_decide_eq_false b18
 refine Ak (Ar rfl rfl rfl b18) (Ay Market.f_sales Tryd.underlying26 rfl rfl Pq (by decide) rfl r2) fun v20 r20=>?_
 refine Ak (Ar rfl rfl rfl b18) (Ax Pq rfl r20) fun v21 r21=>?_
 have g22:=Val.len r21
 refine Aa (Ar rfl rfl rfl b18) (Ce (el:=59) Tryd.underlying24 rfl r21) ?_
 refine Aa (Ar rfl rfl rfl b18) (Gk (p:=((m.sales.length:Nat):Int)) (q:=40) rfl rfl) ?_
 refine Aa rfl (Bm rfl b18 (v:=(.bool (decide (((m.sales.length:Nat):Int) > 40)))) rfl) ?_
 apply Ac
 apply k4
 refine As (t:=decide (((m.sales.length:Nat):Int) > 40)) rfl (fun b23=>?_) (fun b23=>?_)
 ·have q23:=of_decide_eq_true b23
  refine w_q rfl rfl fun K24 k24=>?_
  refine l_A (.bool (true)) rfl rfl ?_
  apply Ac
  apply k24
  refine Aj (Arw l2) ?_
  refine Aq ?_
  refine hret _ _ _ ?_
  exact ⟨rfl,rfl,_,rfl⟩
 have q23:=of_decide_eq_false b23
 refine Al ?_
 apply k3
 refine w_q rfl rfl fun K25 k25=>?_
 refine l_A (iV (0)) rfl rfl ?_
 apply Ac
 apply k25
 refine Ai fun K26 k26=>?_
 refine w_q rfl rfl fun K27 k27=>?_
 refine l_A (iV (0)) rfl rfl ?_
 apply Ac
 apply k27
 refine Ao ?_
 refine Cc (fun mm ee dd ρ' σ'=>∃ (i:Nat) (n:Int),(m.houses.length - i) = mm∧[] = dd∧ρ2 = ρ'∧σ = σ'∧ee 1 = (.pointer (some ⟨k2,0,none⟩))∧ee 3 = (iV (n))∧ee 4 = (iV ((i:Int)))∧(i ≤ m.houses.length)∧True) (m:=_) ⟨0,0,rfl,rfl,rfl,rfl,rfl,rfl,rfl,(Nat.zero_le _),trivial⟩ ?_
 rintro m28 e28 _ _ _ ⟨i,n,rfl,rfl,rfl,rfl,h28_1,h28_3,h28_4,p28_0,_⟩
 refine Ai fun K29 k29=>?_
 refine w_q rfl rfl fun K30 k30=>?_
 refine Aa rfl (Ah (v:=(iV ((i:Int)))) h28_4) ?_
 refine Ak rfl (Ay Market.f_houses Tryd.underlying26 rfl rfl Hu (by decide) h28_1 r2) fun v31 r31=>?_
 refine Ak rfl (Ax Hu rfl r31) fun v32 r32=>?_
 have g33:=Val.len r32
 refine Aa rfl (Ce (el:=9) Tryd.underlying22 rfl r32) ?_
 refine Aa rfl (Da (p:=(i:Int)) (q:=((m.houses.length:Nat):Int)) rfl rfl) ?_
 apply Ac
 apply k30
 refine As (t:=decide ((i:Int) < ((m.houses.length:Nat):Int))) rfl (fun b34=>?_) (fun b34=>?_)
 ·have q34:=of_decide_eq_true b34
  refine Al ?_
  apply k29
  refine Ai fun K35 k35=>?_
  refine Ao ?_
  refine Ag rfl rfl ?_
  refine Aa rfl (Ah (v:=(iV (n))) h28_3) ?_
  refine Ak rfl (Ay Market.f_houses Tryd.underlying26 rfl rfl Hu (by decide) h28_1 r2) fun v36 r36=>?_
  refine Ak rfl (Ax Hu rfl r36) fun v37 r37=>?_
  refine Aa rfl (Ah (v:=(iV ((i:Int)))) h28_4) ?_
  obtain ⟨a39,ha39⟩:=Ed (xs:=m.houses) (i:=i) (by omega)
  refine Ak rfl (Ci i Tryd.underlying22 ty9 rfl r37 (q:=(i:Int)) rfl rfl ha39) fun v38 r38=>?_
  have g40:=At.slen r38
  refine Aa rfl (Oz ty9 rfl r38) ?_
  refine Aa rfl (Afb Tryd.underlying9 (s:=a39) rfl) ?_
  refine Aa rfl (Br (p:=n) (q:=((a39.size:Nat):Int)) rfl rfl (z:=(IntKind.i64.wrap (n + ((a39.size:Nat):Int)))) rfl) ?_
  refine l_A (iV ((IntKind.i64.wrap (n + ((a39.size:Nat):Int))))) rfl rfl ?_
  apply Ac
  apply k35
  refine Ag rfl rfl ?_
  refine Aa rfl (Ah (v:=(iV ((i:Int)))) h28_4) ?_
  refine Aa rfl (Br (p:=(i:Int)) (q:=1) rfl rfl (z:=(((i + 1):Nat):Int)) (Bo (by first | rfl | omega | (push_cast; rfl)) (by omega) (by omega))) ?_
  refine l_A (iV ((((i + 1):Nat):Int))) rfl rfl ?_
  apply Ac
  refine ⟨_,?_,((i + 1)),((IntKind.i64.wrap (n + ((a39.size:Nat):Int)))),rfl,rfl,rfl,rfl,h28_1,rfl,rfl,(by omega),trivial⟩
  omega
 have q34:=of_decide_eq_false b34
 refine Bx ?_
 apply k26
 refine Ai fun K41 k41=>?_
 refine w_q rfl rfl fun K42 k42=>?_
 refine l_A (iV (0)) rfl rfl ?_
 apply Ac
 apply k42
 refine Ao ?_
 refine Cc (fun mm ee dd ρ' σ'=>∃ (i:Nat) (n:Int),(m.marks.length - i) = mm∧[] = dd∧ρ2 = ρ'∧σ = σ'∧ee 1 = (.pointer (some ⟨k2,0,none⟩))∧ee 3 = (iV (n))∧ee 5 = (iV ((i:Int)))∧(i ≤ m.marks.length)∧True) (m:=_) ⟨0,n,rfl,rfl,rfl,rfl,h28_1,h28_3,rfl,(Nat.zero_le _),trivial⟩ ?_
 rintro m43 e43 _ _ _ ⟨i,n,rfl,rfl,rfl,rfl,h43_1,h43_3,h43_5,p43_0,_⟩
 refine Ai fun K44 k44=>?_
 refine w_q rfl rfl fun K45 k45=>?_
 refine Aa rfl (Ah (v:=(iV ((i:Int)))) h43_5) ?_
 refine Ak rfl (Ay Market.f_marks Tryd.underlying26 rfl rfl Hu (by decide) h43_1 r2) fun v46 r46=>?_
 refine Ak rfl (Ax Hu rfl r46) fun v47 r47=>?_
 have g48:=Val.len r47
 refine Aa rfl (Ce (el:=9) Tryd.underlying22 rfl r47) ?_
 refine Aa rfl (Da (p:=(i:Int)) (q:=((m.marks.length:Nat):Int)) rfl rfl) ?_
 apply Ac
 apply k45
 refine As (t:=decide ((i:Int) < ((m.marks.length:Nat):Int))) rfl (fun b49=>?_) (fun b49=>?_)
 ·have q49:=of_decide_eq_true b49
  refine Al ?_
  apply k44
  refine Ai fun K50 k50=>?_
  refine Ao ?_
  refine Ag rfl rfl ?_
  refine Aa rfl (Ah (v:=(iV (n))) h43_3) ?_
  refine Ak rfl (Ay Market.f_marks Tryd.underlying26 rfl rfl Hu (by decide) h43_1 r2) fun v51 r51=>?_
  refine Ak rfl (Ax Hu rfl r51) fun v52 r52=>?_
  refine Aa rfl (Ah (v:=(iV ((i:Int)))) h43_5) ?_
  obtain ⟨a54,ha54⟩:=Ed (xs:=m.marks) (i:=i) (by omega)
  refine Ak rfl (Ci i Tryd.underlying22 ty9 rfl r52 (q:=(i:Int)) rfl rfl ha54) fun v53 r53=>?_
  have g55:=At.slen r53
  refine Aa rfl (Oz ty9 rfl r53) ?_
  refine Aa rfl (Afb Tryd.underlying9 (s:=a54) rfl) ?_
  refine Aa rfl (Br (p:=n) (q:=((a54.size:Nat):Int)) rfl rfl (z:=(IntKind.i64.wrap (n + ((a54.size:Nat):Int)))) rfl) ?_
  refine l_A (iV ((IntKind.i64.wrap (n + ((a54.size:Nat):Int))))) rfl rfl ?_
  apply Ac
  apply k50
  refine Ag rfl rfl ?_
  refine Aa rfl (Ah (v:=(iV ((i:Int)))) h43_5) ?_
  refine Aa rfl (Br (p:=(i:Int)) (q:=1) rfl rfl (z:=(((i + 1):Nat):Int)) (Bo (by first | rfl | omega | (push_cast; rfl)) (by omega) (by omega))) ?_
  refine l_A (iV ((((i + 1):Nat):Int))) rfl rfl ?_
  apply Ac
  refine ⟨_,?_,((i + 1)),((IntKind.i64.wrap (n + ((a54.size:Nat):Int)))),rfl,rfl,rfl,rfl,h43_1,rfl,rfl,(by omega),trivial⟩
  omega
 have q49:=of_decide_eq_false b49
 refine Bx ?_
 apply k41
 refine Ai fun K56 k56=>?_
 refine w_q rfl rfl fun K57 k57=>?_
 refine l_A (iV (0)) rfl rfl ?_
 apply Ac
 apply k57
 refine Ao ?_
 refine Cc (fun mm ee dd ρ' σ'=>∃ (i:Nat) (n:Int),(m.fields.length - i) = mm∧[] = dd∧ρ2 = ρ'∧σ = σ'∧ee 1 = (.pointer (some ⟨k2,0,none⟩))∧ee 3 = (iV (n))∧ee 6 = (iV ((i:Int)))∧(i ≤ m.fields.length)∧True) (m:=_) ⟨0,n,rfl,rfl,rfl,rfl,h43_1,h43_3,rfl,(Nat.zero_le _),trivial⟩ ?_
 rintro m58 e58 _ _ _ ⟨i,n,rfl,rfl,rfl,rfl,h58_1,h58_3,h58_6,p58_0,_⟩
 refine Ai fun K59 k59=>?_
 refine w_q rfl rfl fun K60 k60=>?_
 refine Aa rfl (Ah (v:=(iV ((i:Int)))) h58_6) ?_
 refine Ak rfl (Ay Market.f_fields Tryd.underlying26 rfl rfl Se (by decide) h58_1 r2) fun v61 r61=>?_
 refine Ak rfl (Ax Se rfl r61) fun v62 r62=>?_
 have g63:=Val.len r62
 refine Aa rfl (Ce (el:=67) Tryd.underlying23 rfl r62) ?_
 refine Aa rfl (Da (p:=(i:Int)) (q:=((m.fields.length:Nat):Int)) rfl rfl) ?_
 apply Ac
 apply k60
 refine As (t:=decide ((i:Int) < ((m.fields.length:Nat):Int))) rfl (fun b64=>?_) (fun b64=>?_)
 ·have q64:=of_decide_eq_true b64
  refine Al ?_
  apply k59
  refine Ai fun K65 k65=>?_
  refine Ao ?_
  refine Ai fun K66 k66=>?_
  refine w_q rfl rfl fun K67 k67=>?_
  refine Ak rfl (Ay Market.f_fields Tryd.underlying26 rfl rfl Se (by decide) h58_1 r2) fun v68 r68=>?_
  refine Ak rfl (Ax Se rfl r68) fun v69 r69=>?_
  refine Aa rfl (Ah (v:=(iV ((i:Int)))) h58_6) ?_
  obtain ⟨a71,ha71⟩:=Ed (xs:=m.fields) (i:=i) (by omega)
  refine Ak rfl (Ci i Tryd.underlying23 Ln rfl r69 (q:=(i:Int)) rfl rfl ha71) fun v70 r70=>?_
  refine Ak rfl (Ay FField.f_marks Tryd.underlying67 rfl rfl Ty (by decide) rfl r70) fun v72 r72=>?_
  refine Ak rfl (Ax Ty rfl r72) fun v73 r73=>?_
  have g74:=Val.len r73
  refine Aa rfl (Ce (el:=65) Tryd.underlying27 rfl r73) ?_
  refine Aa rfl (Gk (p:=((a71.marks.length:Nat):Int)) (q:=40) rfl rfl) ?_
  apply Ac
  apply k67
  refine As (t:=decide (((a71.marks.length:Nat):Int) > 40)) rfl (fun b75=>?_) (fun b75=>?_)
  ·have q75:=of_decide_eq_true b75
   refine w_q rfl rfl fun K76 k76=>?_
   refine l_A (.bool (true)) rfl rfl ?_
   apply Ac
   apply k76
   refine Aj (Arw l2) ?_
   refine Aq ?_
   refine hret _ _ _ ?_
   exact ⟨rfl,rfl,_,rfl⟩
  have q75:=of_decide_eq_false b75
  refine Al ?_
  apply k66
  refine Ag rfl rfl ?_
  refine Aa rfl (Ah (v:=(iV (n))) h58_3) ?_
  refine Ak rfl (Ay Market.f_fields Tryd.underlying26 rfl rfl Se (by decide) h58_1 r2) fun v77 r77=>?_
  refine Ak rfl (Ax Se rfl r77) fun v78 r78=>?_
  refine Aa rfl (Ah (v:=(iV ((i:Int)))) h58_6) ?_
  refine Ak rfl (Ci i Tryd.underlying23 Ln rfl r78 (q:=(i:Int)) rfl rfl ha71) fun v79 r79=>?_
  refine Ak rfl (Ay FField.f_name Tryd.underlying67 rfl rfl ty9 (by decide) rfl r79) fun v80 r80=>?_
  have g81:=At.slen r80
  refine Aa rfl (Oz ty9 rfl r80) ?_
  refine Aa rfl (Afb Tryd.underlying9 (s:=a71.name) rfl) ?_
  refine Aa rfl (Br (p:=n) (q:=((a71.name.size:Nat):Int)) rfl rfl (z:=(IntKind.i64.wrap (n + ((a71.name.size:Nat):Int)))) rfl) ?_
  refine l_A (iV ((IntKind.i64.wrap (n + ((a71.name.size:Nat):Int))))) rfl rfl ?_
  apply Ac
  apply k65
  refine Ag rfl rfl ?_
  refine Aa rfl (Ah (v:=(iV ((i:Int)))) h58_6) ?_
  refine Aa rfl (Br (p:=(i:Int)) (q:=1) rfl rfl (z:=(((i + 1):Nat):Int)) (Bo (by first | rfl | omega | (push_cast; rfl)) (by omega) (by omega))) ?_
  refine l_A (iV ((((i + 1):Nat):Int))) rfl rfl ?_
  apply Ac
  refine ⟨_,?_,((i + 1)),((IntKind.i64.wrap (n + ((a71.name.size:Nat):Int)))),rfl,rfl,rfl,rfl,h58_1,rfl,rfl,(by omega),trivial⟩
  omega
 have q64:=of_decide_eq_false b64
 refine Bx ?_
 apply k56
 refine Ai fun K82 k82=>?_
 refine w_q rfl rfl fun K83 k83=>?_
 refine l_A (iV (0)) rfl rfl ?_
 apply Ac
 apply k83
 refine Ao ?_
 refine Cc (fun mm ee dd ρ' σ'=>∃ (i:Nat),(m.sales.length - i) = mm∧[] = dd∧ρ2 = ρ'∧σ = σ'∧ee 1 = (.pointer (some ⟨k2,0,none⟩))∧ee 3 = (iV (n))∧ee 7 = (iV ((i:Int)))∧(i ≤ m.sales.length)∧True) (m:=_) ⟨0,rfl,rfl,rfl,rfl,h58_1,h58_3,rfl,(Nat.zero_le _),trivial⟩ ?_
 rintro m84 e84 _ _ _ ⟨i,rfl,rfl,rfl,rfl,h84_1,h84_3,h84_7,p84_0,_⟩
 refine Ai fun K85 k85=>?_
 refine w_q rfl rfl fun K86 k86=>?_
 refine Aa rfl (Ah (v:=(iV ((i:Int)))) h84_7) ?_
 refine Ak rfl (Ay Market.f_sales Tryd.underlying26 rfl rfl Pq (by decide) h84_1 r2) fun v87 r87=>?_
 refine Ak rfl (Ax Pq rfl r87) fun v88 r88=>?_
 have g89:=Val.len r88
 refine Aa rfl (Ce (el:=59) Tryd.underlying24 rfl r88) ?_
 refine Aa rfl (Da (p:=(i:Int)) (q:=((m.sales.length:Nat):Int)) rfl rfl) ?_
 apply Ac
 apply k86
 refine As (t:=decide ((i:Int) < ((m.sales.length:Nat):Int))) rfl (fun b90=>?_) (fun b90=>?_)
 ·have q90:=of_decide_eq_true b90
  refine Al ?_
  apply k85
  refine Ai fun K91 k91=>?_
  refine Ao ?_
  refine w_q rfl rfl fun K92 k92=>?_
  refine Ak rfl (Ay Market.f_sales Tryd.underlying26 rfl rfl Pq (by decide) h84_1 r2) fun v93 r93=>?_
  refine Ak rfl (Ax Pq rfl r93) fun v94 r94=>?_
  refine Aa rfl (Ah (v:=(iV ((i:Int)))) h84_7) ?_
  obtain ⟨a96,ha96⟩:=Ed (xs:=m.sales) (i:=i) (by omega)
  refine Ak rfl (Ci i Tryd.underlying24 Su rfl r94 (q:=(i:Int)) rfl rfl ha96) fun v95 r95=>?_
  refine Ak rfl (Ay Sale.f_sellers Tryd.underlying59 rfl rfl Vg (by decide) rfl r95) fun v97 r97=>?_
  refine Ak rfl (Ax Vg rfl r97) fun v98 r98=>?_
  have g99:=Val.len r98
  refine Aa rfl (Ce (el:=3) Tryd.underlying30 rfl r98) ?_
  refine Aa rfl (Gk (p:=((a96.sellers.length:Nat):Int)) (q:=40) rfl rfl) ?_
  apply Ac
  apply k92
  refine As (t:=decide (((a96.sellers.length:Nat):Int) > 40)) rfl (fun b100=>?_) (fun b100=>?_)
  ·have q100:=of_decide_eq_true b100
   refine w_q rfl rfl fun K101 k101=>?_
   refine l_A (.bool (true)) rfl rfl ?_
   apply Ac
   apply k101
   refine Aj (Arw l2) ?_
   refine Aq ?_
   refine hret _ _ _ ?_
   exact ⟨rfl,rfl,_,rfl⟩
  have q100:=of_decide_eq_false b100
  refine Al ?_
  apply k91
  refine Ag rfl rfl ?_
  refine Aa rfl (Ah (v:=(iV ((i:Int)))) h84_7) ?_
  refine Aa rfl (Br (p:=(i:Int)) (q:=1) rfl rfl (z:=(((i + 1):Nat):Int)) (Bo (by first | rfl | omega | (push_cast; rfl)) (by omega) (by omega))) ?_
  refine l_A (iV ((((i + 1):Nat):Int))) rfl rfl ?_
  apply Ac
  refine ⟨_,?_,((i + 1)),rfl,rfl,rfl,rfl,h84_1,h84_3,rfl,(by omega),trivial⟩
  omega
 have q90:=of_decide_eq_false b90
 refine Bx ?_
 apply k82
 refine w_q rfl rfl fun K102 k102=>?_
 refine Aa rfl (Ah (v:=(iV (n))) h84_3) ?_
 refine Aa rfl (Gk (p:=n) (q:=1000) rfl rfl) ?_
 refine l_A (.bool (decide (n > 1000))) rfl rfl ?_
 apply Ac
 apply k102
 refine Aj (Arw l2) ?_
 refine Aq ?_
 refine hret _ _ _ ?_
 exact ⟨rfl,rfl,_,rfl⟩
end Go.Proofs.YtoefdnbaklajeaaDoor

namespace Go.Proofs.YtoefdnbaklajeaaDoor
open Go Go.WideShapes
/-- A number without a sign of two bytes. -/
structure UH where
  n:Nat
  lt:n < 65536
instance:Dat UH where
  k:=1
  agg:=false
  rep _ cs x:=cs = [.int .u16 (x.n:Int)]
  mono _ h:=h
  len h:=by rw [h]; rfl
  sgl h:=by rw [h]; simp [single]
  one _:=rfl
theorem val_uh {ρ:Ro} {v:Value} {x:UH}:Val ρ v x↔v = .int .u16 (x.n:Int) :=
  ⟨fun ⟨cs,h1,h2⟩=>by rw [h2,show cs = [.int .u16 (x.n:Int)] from h1]; rfl,fun h=>⟨[v],by rw [h]; rfl,rfl⟩⟩
theorem ty68:GoTy Tryd.prog 68 UH:=⟨⟨_,Tryd.underlying68,rfl⟩,⟨_,Ab Tryd.typeInfo68,rfl⟩⟩
theorem y_load_uh {P:Program} {ρ:Ro} {e:Env} {ty t:TypeId} {x:Operand} {p:Value} {a:UH} (hT:GoTy P t UH) (hx:Af e x = p) (hp:At ρ p a):Yld P ρ e (.load t x) ty (.int .u16 (a.n:Int)):=by
  obtain ⟨v,h1,h2⟩:=Ax (ty:=ty) hT hx hp
  rw [val_uh.1 h1] at h2; exact h2
theorem dec_uh {t:TypeId} (ht:Tryd.prog.underlying t = some (.int .u16)) (hc:Tryd.prog.cellsOf t = 1):Apq UH t :=
  ⟨hc,fun H enc W fuel cs x h _=>by
    obtain ⟨n,h1,_,h3⟩:=DataW.trod_int ht h
    simp [Lit.wf,IntKind.min,IntKind.max,IntKind.signed,IntKind.bits] at h3
    refine ⟨⟨n.toNat,by omega⟩,?_⟩
    show cs = [.int .u16 ((n.toNat:Nat):Int)]
    rw [h1,Int.toNat_of_nonneg (by omega)]⟩
section
variable {H:Type} {enc:TypeId × Value→H} {W:World} {r:Reach} {base t:Nat} {v:Value} {d:DataW H} {p:List MemPlace}
set_option maxRecDepth 100000 in
theorem arg_u8 (ht:Tryd.prog.underlying t = some (.int .u8)) (hv:Value.okWide Tryd.prog W r base t v) (h:DataW.Trod enc Tryd.prog W 0 (fun _=>true) true t v d p):∃ n:Nat,v = .int .u8 (n:Int)∧n < 256:=by
  obtain ⟨n,rfl⟩:=okWide_int ht hv
  obtain ⟨fuel,hf⟩:=h
  obtain ⟨m,h1,_,h3⟩:=DataW.trod_int (cs:=[.int .u8 n]) ht hf
  simp [Lit.wf,IntKind.min,IntKind.max,IntKind.signed,IntKind.bits] at h3
  obtain rfl:n = m:=by simpa using h1
  exact ⟨n.toNat,by rw [Int.toNat_of_nonneg (by omega)],by omega⟩
end
/-- The k-th choice,or 0. -/
def chooseN (l:List UH) (k:Nat):Nat:=match l[k]? with | some x=>x.n | none=>0
theorem chooseN_lt {l:List UH} {k:Nat}:chooseN l k < 65536:=by
  unfold chooseN; split
  · rename_i x _; exact x.lt
  · decide
theorem chooseN_at {l:List UH} {k:Nat} {x:UH} (h:l[k]? = some x):chooseN l k = x.n:=by unfold chooseN; rw [h]
theorem chooseN_out {l:List UH} {k:Nat} (h:l.length ≤ k):chooseN l k = 0:=by unfold chooseN; rw [List.getElem?_eq_none h]
end Go.Proofs.YtoefdnbaklajeaaDoor

namespace Go.Proofs.YtoefdnbaklajeaaDoor
open Go
/-- A number within a span,as is chosen. -/
def oneI (x:Span) (b:Nat):Int:=x.low + (b:Int) % (x.high - x.low + 1)
theorem one_in {x:Span} {b:Nat} (h:x.low ≤ x.high):x.low ≤ oneI x b∧oneI x b ≤ x.high:=by
  unfold oneI
  have h1:=Int.emod_nonneg (b:Int) (show x.high - x.low + 1 ≠ 0 by omega)
  have h2:=Int.emod_lt_of_pos (b:Int) (show 0 < x.high - x.low + 1 by omega)
  omega
theorem spansF_ok {l:List Span} {n:Nat} (hn:l.length = n) (h:∀ (i:Nat) (x:Span),l[i]? = some x→Ri x):Fl l (n:Int) = 0:=by
  rw [Zg]; exact ⟨by rw [hn],h⟩
theorem askedF_ok {m:Market} {l:List Span} (h:Ch m = 0) (hn:l.length = m.marks.length) (hs:∀ (i:Nat) (x:Span),l[i]? = some x→Ri x):Ee m l = 0:=by
  unfold Ee; rw [Jr]; exact ⟨h,spansF_ok hn hs⟩
theorem mixed_iff {fa fb:FField} {marks:List Span} {p:Int}:Gm fa fb marks p = true↔∀ k,k < marks.length→Hm fa fb marks p k = false:=by
  unfold Gm
  rcases Ft (n:=marks.length) (p:=Hm fa fb marks p) with ⟨i,hi,hp,_,he⟩ | ⟨h1,he⟩
  · rw [he]
    constructor
    · intro h; cases h
    · intro h; have:=h i hi; rw [hp] at this; cases this
  · rw [he]; exact ⟨fun _=>h1,fun _=>rfl⟩
/-- Marks that a mark may have which is known with such errors. -/
def nearS (a c d:Int):Span:=⟨max 0 (a - c),min 1000 (a + d)⟩
theorem near_ok {a c d:Int} (h0:0 ≤ a) (h1:a ≤ 1000) (hc:0 ≤ c) (hd:0 ≤ d):Ri (nearS a c d)∧(nearS a c d).low ≤ a∧a ≤ (nearS a c d).high:=by
  unfold nearS Ri
  simp only
  omega
def mixS (x c d:Int):Span:=⟨max 0 (x / 100 - c),min 1000 ((x + 99) / 100 + d)⟩
theorem mixS_ok {x c d:Int} (h0:0 ≤ x) (h1:x ≤ 100000) (hc:0 ≤ c) (hd:0 ≤ d):Ri (mixS x c d)∧100 * (mixS x c d).low ≤ x∧x ≤ 100 * (mixS x c d).high:=by
  unfold mixS Ri
  simp only
  omega
/-- What really is of a field can be of it. -/
theorem origin_in {m:Market} {marks:List Span} {i:Nat} {f:FField} {v:Nat→Int} (hf:m.fields[i]? = some f) (hA:Ee m marks = 0)
    (hv:∀ (j:Nat) (y:Span),f.marks[j]? = some y→y.low ≤ v j∧v j ≤ y.high) (hx:∀ (j:Nat) (x:Span),marks[j]? = some x→x.low ≤ v j∧v j ≤ x.high):(i:Int) ∈ Sj m marks:=by
  unfold Sj
  rw [if_pos hA,List.mem_map]
  refine ⟨i,List.mem_filter.2 ⟨List.mem_range.2 (List.getElem?_eq_some_iff.1 hf).1,?_⟩,rfl⟩
  unfold Iy
  rw [hf]
  simp only
  rw [mixed_iff]
  intro k hk
  unfold Hm
  split
  · rename_i a b x ha hb hx'
    rw [ha] at hb; cases hb
    have h1:=hv k a ha
    have h2:=hx k x hx'
    unfold Sx
    simp only [Bool.or_eq_false_iff,decide_eq_false_iff_not]
    omega
  · rfl
/-- Marks that are known better never add a field. -/
theorem origin_sub {m:Market} {own wide:List Span} (hA:Ee m wide = 0) (hl:own.length = wide.length)
    (h:∀ (j:Nat) (x y:Span),own[j]? = some x→wide[j]? = some y→y.low ≤ x.low∧x.high ≤ y.high) {z:Int} (hz:z ∈ Sj m own):z ∈ Sj m wide:=by
  unfold Sj at hz ⊢
  rw [if_pos hA]
  split at hz
  · obtain ⟨i,hi,rfl⟩:=List.mem_map.1 hz
    obtain ⟨h1,h2⟩:=List.mem_filter.1 hi
    refine List.mem_map.2 ⟨i,List.mem_filter.2 ⟨h1,?_⟩,rfl⟩
    unfold Iy at h2 ⊢
    cases hf:m.fields[i]? with
    | none=>rw [hf] at h2; cases h2
    | some f =>
      rw [hf] at h2
      simp only at h2 ⊢
      rw [mixed_iff] at h2 ⊢
      intro k hk
      have h3:=h2 k (by omega)
      have hx:own[k]? = some own[k]:=List.getElem?_eq_getElem (by omega)
      unfold Hm at h3 ⊢
      rw [hx] at h3
      split
      · rename_i a b y ha hb hy
        rw [ha] at hb; cases hb
        rw [ha] at h3
        simp only at h3
        have:=h k _ _ hx hy
        unfold Sx at h3 ⊢
        simp only [Bool.or_eq_false_iff,decide_eq_false_iff_not] at h3 ⊢
        omega
      · rfl
  · cases hz
/-- What really is of two fields,in hundredths,can be of them. -/
theorem mixes_in {m:Market} {marks:List Span} {i k p:Nat} {f g:FField} {v w:Nat→Int} (hf:m.fields[i]? = some f) (hg:m.fields[k]? = some g) (hp:1 ≤ p∧p ≤ 99)
    (hv:∀ (j:Nat) (y:Span),f.marks[j]? = some y→y.low ≤ v j∧v j ≤ y.high) (hw:∀ (j:Nat) (y:Span),g.marks[j]? = some y→y.low ≤ w j∧w j ≤ y.high)
    (hx:∀ (j:Nat) (x:Span),marks[j]? = some x→100 * x.low ≤ (p:Int) * v j + (100 - (p:Int)) * w j∧(p:Int) * v j + (100 - (p:Int)) * w j ≤ 100 * x.high):Rw m marks i k p = true:=by
  unfold Rw
  rw [hf,hg]
  simp only
  rw [mixed_iff]
  intro q hq
  unfold Hm
  split
  · rename_i a b x ha hb hx'
    have h1:=hv q a ha
    have h2:=hw q b hb
    have h3:=hx q x hx'
    have p0:(0:Int) ≤ (p:Int):=by omega
    have p1:(0:Int) ≤ 100 - (p:Int):=by omega
    have m1:=Int.mul_le_mul_of_nonneg_left h1.1 p0
    have m2:=Int.mul_le_mul_of_nonneg_left h1.2 p0
    have m3:=Int.mul_le_mul_of_nonneg_left h2.1 p1
    have m4:=Int.mul_le_mul_of_nonneg_left h2.2 p1
    unfold Sx
    simp only [Bool.or_eq_false_iff,decide_eq_false_iff_not]
    generalize (p:Int) * v q = x1 at *
    generalize (100 - (p:Int)) * w q = x2 at *
    generalize (p:Int) * a.low = x3 at *
    generalize (p:Int) * a.high = x4 at *
    generalize (100 - (p:Int)) * b.low = x5 at *
    generalize (100 - (p:Int)) * b.high = x6 at *
    omega
  · rfl
theorem blend_of {m:Market} {marks:List Span} {x y q:Nat} (h:Qx m marks = some (x,y,q)):x < y∧y < m.fields.length∧1 ≤ q∧q ≤ 99∧Rw m marks x y q = true:=by
  unfold Qx at h
  cases h1:iAt m marks with
  | none=>rw [h1] at h; cases h
  | some i =>
    rw [h1] at h
    simp only at h
    cases h2:kAt m marks i with
    | none=>rw [h2] at h; cases h
    | some k =>
      rw [h2] at h
      simp only at h
      cases h3:pAt m marks i k with
      | none=>rw [h3] at h; cases h
      | some q' =>
        rw [h3] at h
        simp only [Option.some.injEq,Prod.mk.injEq] at h
        obtain ⟨rfl,rfl,rfl⟩:=h
        unfold kAt at h2
        unfold pAt at h3
        rcases Ft (n:=m.fields.length) (p:=kOk m marks i) with ⟨k',hk,hp,_,he⟩ | ⟨_,he⟩
        · rw [he] at h2; cases h2
          rcases Ft (n:=99) (p:=fun q=>Rw m marks i k (q + 1)) with ⟨q2,hq,hp2,_,he2⟩ | ⟨_,he2⟩
          · rw [he2] at h3; cases h3
            unfold kOk at hp
            simp only [Bool.and_eq_true,decide_eq_true_eq] at hp
            exact ⟨hp.1,hk,by omega,by omega,hp2⟩
          · rw [he2] at h3; cases h3
        · rw [he] at h2; cases h2
theorem first_is {n i:Nat} {p:Nat→Bool} (hi:i < n) (hp:p i = true):∃ j,Cl n p = some j∧j ≤ i∧p j = true:=by
  rcases Ft (n:=n) (p:=p) with ⟨j,_,hp',hlt,he⟩ | ⟨h1,_⟩
  · refine ⟨j,he,?_,hp'⟩
    rcases Nat.lt_or_ge i j with h | h
    · rw [hlt i h] at hp; cases hp
    · exact h
  · rw [h1 i hi] at hp; cases hp
theorem blend_least {m:Market} {marks:List Span} {i k p:Nat} (hik:i < k) (hk:k < m.fields.length) (hp:1 ≤ p∧p ≤ 99) (h:Rw m marks i k p = true) :
    ∃ x y q,Qx m marks = some (x,y,q)∧(x < i∨(x = i∧(y < k∨(y = k∧q ≤ p)))):=by
  obtain ⟨q0,h1,h2,_⟩:=first_is (n:=99) (i:=p - 1) (p:=fun q=>Rw m marks i k (q + 1)) (by omega) (by show Rw m marks i k (p - 1 + 1) = true; rw [show p - 1 + 1 = p by omega]; exact h)
  have hkO:kOk m marks i k = true:=by
    unfold kOk pAt; rw [h1]; simp [hik]
  obtain ⟨k0,h3,h4,h5⟩:=first_is hk hkO
  obtain ⟨i0,h6,h7,h8⟩:=first_is (n:=m.fields.length) (i:=i) (p:=fun i=>(kAt m marks i).isSome) (by omega) (by show (kAt m marks i).isSome = true; unfold kAt; rw [h3]; rfl)
  obtain ⟨k1,hk1⟩:=Option.isSome_iff_exists.1 h8
  have hk1':=hk1
  unfold kAt at hk1'
  have hkO1:kOk m marks i0 k1 = true:=by
    rcases Ft (n:=m.fields.length) (p:=kOk m marks i0) with ⟨j,_,hp',_,he⟩ | ⟨_,he⟩
    · rw [he] at hk1'; cases hk1'; exact hp'
    · rw [he] at hk1'; cases hk1'
  have hkO1':=hkO1
  unfold kOk at hkO1'
  simp only [Bool.and_eq_true,decide_eq_true_eq] at hkO1'
  obtain ⟨q1,hq1⟩:=Option.isSome_iff_exists.1 hkO1'.2
  refine ⟨i0,k1,q1 + 1,?_,?_⟩
  · unfold Qx iAt; rw [h6]; simp only; rw [hk1]; simp only; rw [hq1]
  · rcases Nat.lt_or_ge i0 i with hlt | hge
    · exact .inl hlt
    · have e:i0 = i:=by omega
      subst e
      refine .inr ⟨rfl,?_⟩
      rw [h3] at hk1'; cases hk1'
      rcases Nat.lt_or_ge k0 k with hlt | hge
      · exact .inl hlt
      · have e:k0 = k:=by omega
        subst e
        refine .inr ⟨rfl,?_⟩
        unfold pAt at hq1
        rw [h1] at hq1; cases hq1
        omega
/-- What Blend says of a tin that really is of two fields. -/
theorem blend_law {m:Market} {marks:List Span} {i k p:Nat} (hA:Ee m marks = 0) (hik:i ≤ k) (hk:k < m.fields.length) (hp:1 ≤ p∧p ≤ 99) (h:i < k→Rw m marks i k p = true) :
    ∃ (x y q:Nat) (b:Bool),Rh m marks = .tuple #[.int .i64 (x:Int),.int .i64 (y:Int),.int .i64 (q:Int),.bool b,.int .i64 0]∧(b = false→x = 0∧y = 0∧q = 0∧i = k) ∧
      (b = true→x < y∧y < m.fields.length∧1 ≤ q∧q ≤ 99∧Rw m marks x y q = true∧(i = k∨x < i∨(x = i∧(y < k∨(y = k∧q ≤ p))))):=by
  unfold Rh
  rw [if_pos hA]
  cases hb:Qx m marks with
  | none =>
    refine ⟨0,0,0,false,rfl,fun _=>⟨rfl,rfl,rfl,?_⟩,fun h=>by cases h⟩
    rcases Nat.lt_or_ge i k with hlt | hge
    · obtain ⟨x,y,q,h1,_⟩:=blend_least hlt hk hp (h hlt)
      rw [hb] at h1; cases h1
    · omega
  | some t =>
    obtain ⟨x,y,q⟩:=t
    obtain ⟨h1,h2,h3,h4,h5⟩:=blend_of hb
    refine ⟨x,y,q,true,rfl,fun h=>(by cases h),fun _=>⟨h1,h2,h3,h4,h5,?_⟩⟩
    rcases Nat.lt_or_ge i k with hlt | hge
    · obtain ⟨x',y',q',h6,h7⟩:=blend_least hlt hk hp (h hlt)
      rw [hb] at h6
      simp only [Option.some.injEq,Prod.mk.injEq] at h6
      obtain ⟨rfl,rfl,rfl⟩:=h6
      exact .inr h7
    · exact .inl (by omega)
end Go.Proofs.YtoefdnbaklajeaaDoor

namespace Go.Proofs.YtoefdnbaklajeaaDoor
open Go
set_option maxRecDepth 100000 in
theorem c_choose {mn:Bool} {X:Frame→List Frame→Ro→Own→Cy→Prop} {ρ:Ro} {σ:Own} {picks:List UH} {vk:Value} {k:Nat} (rk:Val ρ vk picks):CallsH (CX mn X) 30 #[vk,(iV ((k:Int)))] ρ σ (fun w ρ' σ'=>ρ' = ρ∧σ' = σ∧w = (iV (((chooseN picks k:Nat):Int)))):=by
 refine Bh (n:=14) (args:=[vk,(iV ((k:Int)))]) [4] Tryd.func30 rfl rfl rfl rfl fun Q hret hnor=>?_
 refine w_q rfl rfl fun K1 k1=>?_
 refine l_A (iV (0)) rfl rfl ?_
 apply Ac
 apply k1
 refine Ai fun K2 k2=>?_
 refine w_q rfl rfl fun K3 k3=>?_
 refine l_M (iV ((k:Int))) rfl rfl ?_
 refine l_M vk rfl rfl ?_
 have g4:=Val.len rk
 refine Aa rfl (Ce (el:=68) Tryd.underlying55 rfl rk) ?_
 refine Aa rfl (Da (p:=(k:Int)) (q:=((picks.length:Nat):Int)) rfl rfl) ?_
 apply Ac
 apply k3
 refine As (t:=decide ((k:Int) < ((picks.length:Nat):Int))) rfl (fun b5=>?_) (fun b5=>?_)
 ·have q5:=of_decide_eq_true b5
  refine w_q rfl rfl fun K6 k6=>?_
  refine l_M vk rfl rfl ?_
  refine l_M (iV ((k:Int))) rfl rfl ?_
  obtain ⟨a8,ha8⟩:=Ed (xs:=picks) (i:=k) (by omega)
  refine Ak rfl (Ci k Tryd.underlying55 ty68 rfl rk (q:=(k:Int)) rfl rfl ha8) fun v7 r7=>?_
  have g9:=a8.lt
  refine Aa rfl (y_load_uh ty68 rfl r7) ?_
  refine Aa rfl (Abu (p:=((a8.n:Nat):Int)) (z:=((a8.n:Nat):Int)) Tryd.underlying68 Tryd.underlying3 rfl (Bo rfl (by omega) (by omega))) ?_
  refine l_A (iV (((a8.n:Nat):Int))) rfl rfl ?_
  apply Ac
  apply k6
  refine Aq ?_
  refine hret _ _ _ ?_
  refine ⟨rfl,rfl,Eq.trans (b:=(iV (((a8.n:Nat):Int)))) rfl ?_⟩
  rw [chooseN_at ha8]
 have q5:=of_decide_eq_false b5
 refine Al ?_
 apply k2
 refine w_q rfl rfl fun K10 k10=>?_
 refine l_A (iV (0)) rfl rfl ?_
 apply Ac
 apply k10
 refine Aq ?_
 refine hret _ _ _ ?_
 refine ⟨rfl,rfl,Eq.trans (b:=(iV (0))) rfl ?_⟩
 rw [chooseN_out (by omega)]; rfl
set_option maxRecDepth 100000 in
theorem c_one {mn:Bool} {X:Frame→List Frame→Ro→Own→Cy→Prop} {ρ:Ro} {σ:Own} {x:Span} {vx:Value} {b:Nat} (rx:Val ρ vx x) (hx:0 ≤ x.low∧x.low ≤ x.high∧x.high ≤ 1000000) (hb:b < 65536):CallsH (CX mn X) 35 #[vx,(iV ((b:Int)))] ρ σ (fun w ρ' σ'=>ρ' = ρ∧σ' = σ∧w = (iV (oneI x b))):=by
 have ht1:=Int.tmod_nonneg (x.high - x.low + 1) (show (0:Int) ≤ (b:Int) by omega)
 have ht2:=Int.tmod_lt_of_pos (b:Int) (show 0 < x.high - x.low + 1 by omega)
 refine Bh (n:=16) (args:=[vx,(iV ((b:Int)))]) [4] Tryd.func35 rfl rfl rfl rfl fun Q hret hnor=>?_
 refine w_q rfl rfl fun K1 k1=>?_
 refine Ae rfl (Eb (v:=vx) rfl fun k2=>?_)
 refine Bb (a:=x) rx fun ρ2 l2 r2=>?_
 replace rx:=Asa l2 rx
 refine l_A (iV (0)) rfl rfl ?_
 apply Ac
 apply k1
 refine Ai fun K3 k3=>?_
 refine Dc [0,1,2,3,4,5,6,7,8,9,10,11] (by kernel_rfl) rfl rfl ?_
 refine Cd (i:=0) [o1,o0,o0,o0,o0,o0,o0,o0,o0,o0,o0,o0] rfl (by kernel_rfl) rfl Ary rfl (Ay Span.f_low Tryd.underlying65 rfl rfl ty3 (by decide) rfl r2) fun v4 r4=>?_
 have ⟨g5a,g5b⟩:=At.rng r4
 refine Be (i:=1) [o1,o1,o0,o0,o0,o0,o0,o0,o0,o0,o0,o0] rfl (by kernel_rfl) rfl Ary rfl (Bc ty3 rfl r4) ?_
 refine Be (i:=2) [o1,o1,o1,o0,o0,o0,o0,o0,o0,o0,o0,o0] rfl (by kernel_rfl) rfl Ary rfl (Ah (v:=(iV ((b:Int)))) rfl) ?_
 refine Cd (i:=3) [o1,o1,o1,o1,o0,o0,o0,o0,o0,o0,o0,o0] rfl (by kernel_rfl) rfl Ary rfl (Ay Span.f_high Tryd.underlying65 rfl rfl ty3 (by decide) rfl r2) fun v6 r6=>?_
 have ⟨g7a,g7b⟩:=At.rng r6
 refine Be (i:=4) [o1,o1,o1,o1,o1,o0,o0,o0,o0,o0,o0,o0] rfl (by kernel_rfl) rfl Ary rfl (Bc ty3 rfl r6) ?_
 refine Hl (i:=5) [o1,o1,o1,o1,o1,o1,o0,o0,o0,o0,o0,o0] rfl (by kernel_rfl) rfl Ary rfl (Ay Span.f_low Tryd.underlying65 rfl rfl ty3 (by decide) rfl r2) fun v8 r8=>?_
 have ⟨g9a,g9b⟩:=At.rng r8
 refine Bg (i:=6) [o1,o1,o1,o1,o1,o1,o1,o0,o0,o0,o0,o0] rfl (by kernel_rfl) rfl Ary rfl (Bc ty3 rfl r8) ?_
 refine Bg (i:=7) [o1,o1,o1,o1,o1,o1,o1,o1,o0,o0,o0,o0] rfl (by kernel_rfl) rfl Ary rfl (Oq (p:=x.high) (q:=x.low) rfl rfl (z:=(x.high - x.low)) (Bo (by omega) (by omega) (by omega))) ?_
 refine Bg (i:=8) Aoq rfl (by kernel_rfl) rfl Ary rfl (Br (p:=(x.high - x.low)) (q:=1) rfl rfl (z:=((x.high - x.low) + 1)) (Bo (by omega) (by omega) (by omega))) ?_
 refine Bg (i:=9) Amj rfl (by kernel_rfl) rfl Ary rfl (y_rem (p:=(b:Int)) (q:=((x.high - x.low) + 1)) rfl rfl (by omega) (z:=(((b:Int)).tmod (((x.high - x.low) + 1)))) rfl) ?_
 refine Bg (i:=10) zZ0 rfl (by kernel_rfl) rfl Ary rfl (Br (p:=x.low) (q:=(((b:Int)).tmod (((x.high - x.low) + 1)))) rfl rfl (z:=(x.low + (((b:Int)).tmod (((x.high - x.low) + 1))))) (Bo (by omega) (by omega) (by omega))) ?_
 refine Bg (i:=11) zZ1 rfl (by kernel_rfl) rfl Ary rfl (Cp (v:=(iV ((x.low + (((b:Int)).tmod (((x.high - x.low) + 1))))))) rfl) ?_
 refine Ec rfl ?_
 apply k3
 refine Aj (Arw l2) ?_
 refine Aq ?_
 refine hret _ _ _ ?_
 refine ⟨rfl,rfl,Eq.trans (b:=(iV ((x.low + (((b:Int)).tmod (((x.high - x.low) + 1))))))) rfl ?_⟩
 unfold oneI; rw [Int.tmod_eq_emod_of_nonneg (by omega)]
end Go.Proofs.YtoefdnbaklajeaaDoor

namespace Go.Proofs.YtoefdnbaklajeaaDoor
open Go
section
variable {P:Program} {ρ:Ro} {e:Env} {ty:TypeId} {x y:Operand}
theorem y_minN {k:IntKind} {a b r:Nat} {tys:Array TypeId} (h:min a b = r) (hx:Af e x = .int k (a:Int)) (hy:Af e y = .int k (b:Int)):Yld P ρ e (.call ⟨.builtin .min,#[x,y],tys⟩) ty (.int k (r:Int)):=by
 have h1:=Aju (P:=P) (ρ:=ρ) (ty:=ty) (tys:=tys) hx hy
 rwa [show min (a:Int) (b:Int) = (r:Int) by omega] at h1
theorem y_maxN {k:IntKind} {a b r:Nat} {tys:Array TypeId} (h:max a b = r) (hx:Af e x = .int k (a:Int)) (hy:Af e y = .int k (b:Int)):Yld P ρ e (.call ⟨.builtin .max,#[x,y],tys⟩) ty (.int k (r:Int)):=by
 have h1:=Aqd (P:=P) (ρ:=ρ) (ty:=ty) (tys:=tys) hx hy
 rwa [show max (a:Int) (b:Int) = (r:Int) by omega] at h1
end
/-- The real mark of a field,and the errors,as they are chosen. -/
def aF (f:FField) (picks:List UH) (q j:Nat):Int:=match f.marks[j]? with | some x=>oneI x (chooseN picks (4 * j + q)) | none=>0
def cF (picks:List UH) (q j:Nat):Nat:=chooseN picks (4 * j + q) % 40
def ownF (f:FField) (picks:List UH) (j:Nat):Span:=nearS (aF f picks 0 j) ((cF picks 2 j:Nat):Int) ((cF picks 3 j:Nat):Int)
def wideF (f:FField) (picks:List UH) (j:Nat):Span:=nearS (aF f picks 0 j) ((2 * cF picks 2 j:Nat):Int) ((2 * cF picks 3 j:Nat):Int)
def mixF (f g:FField) (picks:List UH) (p j:Nat):Span:=mixS ((p:Int) * aF f picks 0 j + (100 - (p:Int)) * aF g picks 1 j) ((cF picks 2 j:Nat):Int) ((cF picks 3 j:Nat):Int)
def MarksOk (f:FField) (n:Nat):Prop:=f.marks.length = n∧∀ (j:Nat) (y:Span),f.marks[j]? = some y→Ri y
theorem aF_in {n:Nat} {f:FField} {picks:List UH} {q j:Nat} {y:Span} (ok:MarksOk f n) (h:f.marks[j]? = some y):y.low ≤ aF f picks q j∧aF f picks q j ≤ y.high∧0 ≤ aF f picks q j∧aF f picks q j ≤ 1000:=by
 obtain ⟨h1,h2,h3⟩:=ok.2 j y h
 have:=one_in (x:=y) (b:=chooseN picks (4 * j + q)) h2
 unfold aF; rw [h]; simp only; omega
theorem aF_all {n:Nat} {f:FField} {picks:List UH} {q j:Nat} (ok:MarksOk f n):0 ≤ aF f picks q j∧aF f picks q j ≤ 1000:=by
 cases h:f.marks[j]? with
 | none=>unfold aF; rw [h]; simp
 | some y=>exact (aF_in ok h).2.2
theorem map_at {f:Nat→Span} {n i:Nat} {x:Span} (h:((List.range n).map f)[i]? = some x):i < n∧x = f i:=by
 rw [List.getElem?_map] at h
 obtain ⟨a,ha,rfl⟩:=Option.map_eq_some_iff.1 h
 obtain ⟨h1,h2⟩:=List.getElem?_eq_some_iff.1 ha
 simp only [List.length_range] at h1
 simp only [List.getElem_range] at h2
 subst h2; exact ⟨h1,rfl⟩
theorem mixB {p a b:Int} (hp:1 ≤ p∧p ≤ 99) (ha:0 ≤ a∧a ≤ 1000) (hb:0 ≤ b∧b ≤ 1000):0 ≤ p * a + (100 - p) * b∧p * a + (100 - p) * b ≤ 100000:=by
 have m1:=Int.mul_le_mul_of_nonneg_left ha.2 (show 0 ≤ p by omega)
 have m2:=Int.mul_nonneg (show 0 ≤ p by omega) ha.1
 have m3:=Int.mul_le_mul_of_nonneg_left hb.2 (show 0 ≤ 100 - p by omega)
 have m4:=Int.mul_nonneg (show 0 ≤ 100 - p by omega) hb.1
 omega
section
variable {m:Market} {picks:List UH} {i k p:Nat} {f g:FField}
theorem own_asked (h:Ch m = 0) (ok:MarksOk f m.marks.length):Ee m ((List.range m.marks.length).map (ownF f picks)) = 0:=askedF_ok h (by simp) fun j x hx=>by
 obtain ⟨_,rfl⟩:=map_at hx
 have h1:=aF_all (picks:=picks) (q:=0) (j:=j) ok
 exact (near_ok h1.1 h1.2 (Int.natCast_nonneg _) (Int.natCast_nonneg _)).1
theorem wide_asked (h:Ch m = 0) (ok:MarksOk f m.marks.length):Ee m ((List.range m.marks.length).map (wideF f picks)) = 0:=askedF_ok h (by simp) fun j x hx=>by
 obtain ⟨_,rfl⟩:=map_at hx
 have h1:=aF_all (picks:=picks) (q:=0) (j:=j) ok
 exact (near_ok h1.1 h1.2 (Int.natCast_nonneg _) (Int.natCast_nonneg _)).1
theorem mix_asked (h:Ch m = 0) (hp:1 ≤ p∧p ≤ 99) (ok:MarksOk f m.marks.length) (ok2:MarksOk g m.marks.length):Ee m ((List.range m.marks.length).map (mixF f g picks p)) = 0:=askedF_ok h (by simp) fun j x hx=>by
 obtain ⟨_,rfl⟩:=map_at hx
 have h1:=mixB (p:=(p:Int)) (by omega) (aF_all (picks:=picks) (q:=0) (j:=j) ok) (aF_all (picks:=picks) (q:=1) (j:=j) ok2)
 exact (mixS_ok h1.1 h1.2 (Int.natCast_nonneg _) (Int.natCast_nonneg _)).1
theorem own_in (h:Ch m = 0) (hf:m.fields[i]? = some f) (ok:MarksOk f m.marks.length):(i:Int) ∈ Sj m ((List.range m.marks.length).map (ownF f picks)) :=
 origin_in (v:=aF f picks 0) hf (own_asked h ok) (fun j y hy=>by have:=aF_in (picks:=picks) (q:=0) ok hy; omega) fun j x hx=>by
  obtain ⟨_,rfl⟩:=map_at hx
  have h1:=aF_all (picks:=picks) (q:=0) (j:=j) ok
  exact (near_ok h1.1 h1.2 (Int.natCast_nonneg _) (Int.natCast_nonneg _)).2
theorem own_wide (h:Ch m = 0) (ok:MarksOk f m.marks.length):∀ z ∈ Sj m ((List.range m.marks.length).map (ownF f picks)),z ∈ Sj m ((List.range m.marks.length).map (wideF f picks)):=fun z hz =>
 origin_sub (wide_asked h ok) (by simp) (fun j x y hx hy=>by
  obtain ⟨_,rfl⟩:=map_at hx
  obtain ⟨_,rfl⟩:=map_at hy
  unfold ownF wideF nearS
  simp only
  omega) hz
theorem mix_in (hf:m.fields[i]? = some f) (hg:m.fields[k]? = some g) (hp:1 ≤ p∧p ≤ 99) (ok:MarksOk f m.marks.length) (ok2:MarksOk g m.marks.length):Rw m ((List.range m.marks.length).map (mixF f g picks p)) i k p = true :=
 mixes_in (v:=aF f picks 0) (w:=aF g picks 1) hf hg hp (fun j y hy=>by have:=aF_in (picks:=picks) (q:=0) ok hy; omega) (fun j y hy=>by have:=aF_in (picks:=picks) (q:=1) ok2 hy; omega) fun j x hx=>by
  obtain ⟨_,rfl⟩:=map_at hx
  have h1:=mixB (p:=(p:Int)) (by omega) (aF_all (picks:=picks) (q:=0) (j:=j) ok) (aF_all (picks:=picks) (q:=1) (j:=j) ok2)
  exact (mixS_ok h1.1 h1.2 (Int.natCast_nonneg _) (Int.natCast_nonneg _)).2
theorem marks_ok (ok:MarketOk m) (hf:m.fields[i]? = some f):MarksOk f m.marks.length:=⟨by have:=(ok.field i f hf).2.2.2.2.1; omega,(ok.field i f hf).2.2.2.2.2⟩
theorem mixes_at {marks:List Span} (h:Rw m marks i k p = true) (hf:m.fields[i]? = some f) (hg:m.fields[k]? = some g):Gm f g marks (p:Int) = true:=by
 unfold Rw at h; rw [hf,hg] at h; exact h
end
section
variable {mn:Bool} {X:Frame→List Frame→Ro→Own→Cy→Prop} {ρ:Ro} {σ:Own}
theorem c_OriginX {m:Market} {marks:List Span} {vm vk:Value} {l:List Int} (hA:Ee m marks = 0) (hl:Sj m marks = l) (rm:Val ρ vm m) (rk:Val ρ vk marks):CallsH (CX mn X) 18 #[vm,vk] ρ σ (fun w ρ' σ'=>Ro.le ρ ρ'∧σ' = σ∧∃ v0,w = .tuple #[v0,.int .i64 0]∧Val ρ' v0 (l:List Int)):=by
 have h:=Ajp (mn:=mn) (X:=X) (σ:=σ) rm rk
 rw [show Sq m marks = 0 by unfold Sq; rw [hA]; rfl,hl] at h; exact h
theorem c_BlendY {m:Market} {marks:List Span} {vm vk v:Value} (hB:Rh m marks = v) (rm:Val ρ vm m) (rk:Val ρ vk marks):CallsH (CX mn X) 21 #[vm,vk] ρ σ (fun w ρ' σ'=>ρ' = ρ∧σ' = σ∧w = v):=hB ▸ Alp rm rk
end
set_option maxHeartbeats 8000000 in
set_option maxRecDepth 100000 in
theorem c_FakeOrigin  {ρ:Ro} {σ:Own} {m:Market} {first second part:Nat} {picks:List UH} {vm vk:Value} (hg:Glob ρ) (hnr:Js σ) (rm:Val ρ vm m) (hfi:first < 256) (hse:second < 256) (hpa:part < 256) (rk:Val ρ vk picks):Agv (CX true (Acu Tryd.prog)) 7 10 [vm,(.int .u8 ((first:Int))),(.int .u8 ((second:Int))),(.int .u8 ((part:Int))),vk] ρ σ (fun w ρ' σ'=>ρ' = ρ∧σ' = σ∧w = (.bool (true))):=by
 refine body_fn (n:=298) Tryd.func7 rfl rfl rfl rfl fun Q hret hnor=>?_
 refine w_q rfl rfl fun K1 k1=>?_
 refine Ae rfl (Eb (v:=vm) rfl fun k2=>?_)
 refine Bb (a:=m) rm fun ρ2 l2 r2=>?_
 replace rm:=Asa l2 rm
 replace rk:=Asa l2 rk
 replace hg:=Glob.mono l2 hg
 refine l_A (.bool (false)) rfl rfl ?_
 apply Ac
 apply k1
 refine Ai fun K3 k3=>?_
 refine w_q rfl rfl fun K4 k4=>?_
 refine Ak rfl (Ax Lj rfl r2) fun v5 r5=>?_
 refine Ae rfl (Cm (vs:=[v5]) (c_Vast r5) Tryd.func16 rfl rfl ⟨rfl,trivial⟩ fun w6 ρ6 σ6 hc6=>?_)
 obtain ⟨hr6,hs6,b6_,hw6⟩:=hc6
 replace hr6:=hr6.symm; replace hs6:=hs6.symm; subst hr6 hs6 hw6
 refine l_M (.bool (b6_)) rfl rfl ?_
 refine Cn (b6_) (fun b7=>?_) (fun b7=>?_)
 ·refine Ap (Bl rfl rfl rfl b7) ?_
  refine Ap (Bl rfl rfl rfl b7) ?_
  refine Ap (Bl rfl rfl rfl b7) ?_
  refine Aa rfl (Bt rfl b7 (v:=(.bool (true))) rfl) ?_
  refine l_M (.bool (true)) rfl rfl ?_
  refine Ap (Bl rfl rfl rfl rfl) ?_
  refine Ap (Bl rfl rfl rfl rfl) ?_
  refine Ap (Bl rfl rfl rfl rfl) ?_
  refine Ap (Bl rfl rfl rfl rfl) ?_
  refine Aa rfl (Bt rfl rfl (v:=(.bool (true))) rfl) ?_
  apply Ac
  apply k4
  refine Co rfl rfl ?_
  refine w_q rfl rfl fun K8 k8=>?_
  refine Ae rfl (Bn (vs:=[]) (v:=(.bool (true))) (c_tells hg hnr) Tryd.func17 rfl rfl trivial ?_)
  refine l_A (.bool (true)) rfl rfl ?_
  apply Ac
  apply k8
  refine Aj (Arw l2) ?_
  refine Aq ?_
  refine hret _ _ _ ?_
  refine ⟨rfl,rfl,Eq.trans (b:=(.bool (true))) rfl ?_⟩
  rfl
 refine Ak (Ar rfl rfl rfl b7) (Ax Lj rfl r2) fun v9 r9=>?_
 refine Ae (Ar rfl rfl rfl b7) (Bn (vs:=[v9]) (v:=(iV (Ch m))) (c_CheckMarket r9) Tryd.func28 rfl rfl ⟨rfl,trivial⟩ ?_)
 refine Aa (Ar rfl rfl rfl b7) (Dg (p:=Ch m) (q:=0) rfl rfl) ?_
 refine Aa rfl (Bm rfl b7 (v:=(.bool (Ch m != 0))) rfl) ?_
 refine l_M (.bool (Ch m != 0)) rfl rfl ?_
 refine Cn (Ch m != 0) (fun b10=>?_) (fun b10=>?_)
 ·have q10:=Mb b10
  refine Ap (Bl rfl rfl rfl b10) ?_
  refine Ap (Bl rfl rfl rfl b10) ?_
  refine Ap (Bl rfl rfl rfl b10) ?_
  refine Ap (Bl rfl rfl rfl b10) ?_
  refine Aa rfl (Bt rfl b10 (v:=(.bool (true))) rfl) ?_
  apply Ac
  apply k4
  refine Co rfl rfl ?_
  refine w_q rfl rfl fun K11 k11=>?_
  refine Ae rfl (Bn (vs:=[]) (v:=(.bool (true))) (c_tells hg hnr) Tryd.func17 rfl rfl trivial ?_)
  refine l_A (.bool (true)) rfl rfl ?_
  apply Ac
  apply k11
  refine Aj (Arw l2) ?_
  refine Aq ?_
  refine hret _ _ _ ?_
  refine ⟨rfl,rfl,Eq.trans (b:=(.bool (true))) rfl ?_⟩
  rfl
 have hm0:=Jh b10
 have ok:=Qv hm0
 have hn8:=ok.nsales
 have hh5:=Hp ok
 have q10:=Jh b10
 refine Ak (Ar rfl rfl rfl b10) (Ay Market.f_fields Tryd.underlying26 rfl rfl Se (by decide) rfl r2) fun v12 r12=>?_
 refine Ak (Ar rfl rfl rfl b10) (Ax Se rfl r12) fun v13 r13=>?_
 have g14:=Val.len r13
 refine Aa (Ar rfl rfl rfl b10) (Ce (el:=67) Tryd.underlying23 rfl r13) ?_
 refine Aa (Ar rfl rfl rfl b10) (Ek (p:=((m.fields.length:Nat):Int)) (q:=0) rfl rfl) ?_
 refine Aa rfl (Bm rfl b10 (v:=(.bool (((m.fields.length:Nat):Int) == 0))) rfl) ?_
 apply Ac
 apply k4
 refine As (t:=((m.fields.length:Nat):Int) == 0) rfl (fun b15=>?_) (fun b15=>?_)
 ·have q15:=Jo b15
  refine w_q rfl rfl fun K16 k16=>?_
  refine Ae rfl (Bn (vs:=[]) (v:=(.bool (true))) (c_tells hg hnr) Tryd.func17 rfl rfl trivial ?_)
  refine l_A (.bool (true)) rfl rfl ?_
  apply Ac
  apply k16
  refine Aj (Arw l2) ?_
  refine Aq ?_
  refine hret _ _ _ ?_
  refine ⟨rfl,rfl,Eq.trans (b:=(.bool (true))) rfl ?_⟩
  rfl
 have q15:=La b15
 refine Al ?_
 apply k3
 refine Ai fun K17 k17=>?_
 refine Dc [0,1,2,3,4,5,6,7,8,9,10,11,12,13,14,15,16,17,18] (by kernel_rfl) rfl rfl ?_
 refine Be (i:=0) Aqx rfl (by kernel_rfl) rfl Ary rfl (Ah (v:=(.int .u8 ((first:Int)))) rfl) ?_
 refine Be (i:=1) Api rfl (by kernel_rfl) rfl Ary rfl (Abu (p:=(first:Int)) (z:=(first:Int)) Tryd.underlying5 Tryd.underlying3 rfl (Bo rfl (by omega) (by omega))) ?_
 refine Cd (i:=2) Aqw rfl (by kernel_rfl) rfl Ary rfl (Ay Market.f_fields Tryd.underlying26 rfl rfl Se (by decide) rfl r2) fun v18 r18=>?_
 refine Cd (i:=3) Apj rfl (by kernel_rfl) rfl Ary rfl (Ax Se rfl r18) fun v19 r19=>?_
 have g20:=Val.len r19
 refine Be (i:=4) Arp rfl (by kernel_rfl) rfl Ary rfl (Ce (el:=67) Tryd.underlying23 rfl r19) ?_
 have hml21:=Nat.mod_lt first (show 0 < m.fields.length by omega)
 refine Be (i:=5) Arq rfl (by kernel_rfl) rfl Ary rfl (y_rem (p:=(first:Int)) (q:=((m.fields.length:Nat):Int)) rfl rfl (by omega) (z:=(((first % m.fields.length):Nat):Int)) rfl) ?_
 refine Be (i:=6) Aqk rfl (by kernel_rfl) rfl Ary rfl (Ah (v:=(.int .u8 ((second:Int)))) rfl) ?_
 refine Be (i:=7) Aro rfl (by kernel_rfl) rfl Ary rfl (Abu (p:=(second:Int)) (z:=(second:Int)) Tryd.underlying5 Tryd.underlying3 rfl (Bo rfl (by omega) (by omega))) ?_
 refine Cd (i:=8) Are rfl (by kernel_rfl) rfl Ary rfl (Ay Market.f_fields Tryd.underlying26 rfl rfl Se (by decide) rfl r2) fun v22 r22=>?_
 refine Cd (i:=9) Apy rfl (by kernel_rfl) rfl Ary rfl (Ax Se rfl r22) fun v23 r23=>?_
 have g24:=Val.len r23
 refine Be (i:=10) Aqq rfl (by kernel_rfl) rfl Ary rfl (Ce (el:=67) Tryd.underlying23 rfl r23) ?_
 have hml25:=Nat.mod_lt second (show 0 < m.fields.length by omega)
 refine Be (i:=11) Aqr rfl (by kernel_rfl) rfl Ary rfl (y_rem (p:=(second:Int)) (q:=((m.fields.length:Nat):Int)) rfl rfl (by omega) (z:=(((second % m.fields.length):Nat):Int)) rfl) ?_
 refine Be (i:=12) Arf rfl (by kernel_rfl) rfl Ary rfl (Ah (v:=(.int .u8 ((part:Int)))) rfl) ?_
 refine Be (i:=13) Aqf rfl (by kernel_rfl) rfl Ary rfl (Abu (p:=(part:Int)) (z:=(part:Int)) Tryd.underlying5 Tryd.underlying3 rfl (Bo rfl (by omega) (by omega))) ?_
 refine Be (i:=14) Apu rfl (by kernel_rfl) rfl Ary rfl (y_rem (p:=(part:Int)) (q:=99) rfl rfl (by omega) (z:=(((part % 99):Nat):Int)) rfl) ?_
 refine Be (i:=15) Arb rfl (by kernel_rfl) rfl Ary rfl (Br (p:=1) (q:=(((part % 99):Nat):Int)) rfl rfl (z:=(((1 + (part % 99)):Nat):Int)) (Bo (by first | rfl | omega | (push_cast; rfl)) (by omega) (by omega))) ?_
 refine Bg (i:=16) Aqy rfl (by kernel_rfl) rfl Ary rfl (Cp (v:=(iV ((((first % m.fields.length):Nat):Int)))) rfl) ?_
 refine Bg (i:=17) Apz rfl (by kernel_rfl) rfl Ary rfl (Cp (v:=(iV ((((second % m.fields.length):Nat):Int)))) rfl) ?_
 refine Bg (i:=18) Aqh rfl (by kernel_rfl) rfl Ary rfl (Cp (v:=(iV ((((1 + (part % 99)):Nat):Int)))) rfl) ?_
 refine Ec rfl ?_
 apply k17
 refine w_q rfl rfl fun K26 k26=>?_
 refine l_M (iV ((((first % m.fields.length):Nat):Int))) rfl rfl ?_
 refine l_M (iV ((((second % m.fields.length):Nat):Int))) rfl rfl ?_
 obtain ⟨i,hi⟩:∃ r:Nat,min ((first % m.fields.length)) ((second % m.fields.length)) = r:=⟨_,rfl⟩
 refine Aa rfl (y_minN hi rfl rfl) ?_
 refine l_M (iV ((((first % m.fields.length):Nat):Int))) rfl rfl ?_
 refine l_M (iV ((((second % m.fields.length):Nat):Int))) rfl rfl ?_
 obtain ⟨k,hk⟩:∃ r:Nat,max ((first % m.fields.length)) ((second % m.fields.length)) = r:=⟨_,rfl⟩
 refine Aa rfl (y_maxN hk rfl rfl) ?_
 refine l_A (iV ((i:Int))) rfl rfl ?_
 refine l_A (iV ((k:Int))) rfl rfl ?_
 apply Ac
 apply k26
 refine w_q rfl rfl fun K27 k27=>?_
 refine l_A (.slice none 0 0) rfl rfl ?_
 refine l_A (.slice none 0 0) rfl rfl ?_
 refine l_A (.slice none 0 0) rfl rfl ?_
 apply Ac
 apply k27
 refine Ai fun K28 k28=>?_
 refine w_q rfl rfl fun K29 k29=>?_
 refine l_A (iV (0)) rfl rfl ?_
 apply Ac
 apply k29
 refine Ao ?_
 have hikn:i ≤ k∧k < m.fields.length:=by omega
 obtain ⟨a30,ha30⟩:=Ed (xs:=m.fields) (i:=i) (by omega)
 have gf_a30:=marks_ok ok ha30
 have gl_a30:=gf_a30.1
 obtain ⟨a31,ha31⟩:=Ed (xs:=m.fields) (i:=k) (by omega)
 have gf_a31:=marks_ok ok ha31
 have gl_a31:=gf_a31.1
 have hp99:1 ≤ (1 + (part % 99))∧(1 + (part % 99)) ≤ 99:=by omega
 have okf:=marks_ok ok ha30
 have okg:=marks_ok ok ha31
 have hm4:(m.marks.length:Int) ≤ 4:=Sw ok.marks
 refine Cc (fun mm ee dd ρ' σ'=>∃ (j:Nat) (ov32_14:Value) (og32_14:Own) (ov32_15:Value) (og32_15:Own) (ov32_16:Value) (og32_16:Own),(m.marks.length - j) = mm∧[] = dd∧Ro.le ρ2 ρ'∧(og32_14 ++ (og32_15 ++ (og32_16 ++ σ))) = σ'∧ee 4 = vk∧ee 5 = (.pointer (some ⟨k2,0,none⟩))∧ee 11 = (iV ((i:Int)))∧ee 12 = (iV ((k:Int)))∧ee 13 = (iV ((((1 + (part % 99)):Nat):Int)))∧ee 14 = ov32_14∧ee 15 = ov32_15∧ee 16 = ov32_16∧ee 17 = (iV ((j:Int)))∧(j ≤ m.marks.length)∧Grow ρ' 65 ov32_14 ((List.range j).map (ownF a30 picks)) og32_14∧Grow ρ' 65 ov32_15 ((List.range j).map (mixF a30 a31 picks ((1 + (part % 99))))) og32_15∧Grow ρ' 65 ov32_16 ((List.range j).map (wideF a30 picks)) og32_16∧True) (m:=_) ⟨0,(.slice none 0 0),[],(.slice none 0 0),[],(.slice none 0 0),[],rfl,rfl,Ary,rfl,rfl,rfl,rfl,rfl,rfl,rfl,rfl,rfl,rfl,(Nat.zero_le _),Hn,Hn,Hn,trivial⟩ ?_
 rintro m32 e32 _ ρ32 _ ⟨j,ov32_14,og32_14,ov32_15,og32_15,ov32_16,og32_16,rfl,rfl,l32,rfl,h32_4,h32_5,h32_11,h32_12,h32_13,h32_14,h32_15,h32_16,h32_17,p32_0,OG32_14,OG32_15,OG32_16,_⟩
 replace rk:=Asa l32 rk
 replace hg:=Glob.mono l32 hg
 replace r2:=Arv l32 r2
 refine Ai fun K33 k33=>?_
 refine w_q rfl rfl fun K34 k34=>?_
 refine Aa rfl (Ah (v:=(iV ((j:Int)))) h32_17) ?_
 refine Ak rfl (Ay Market.f_marks Tryd.underlying26 rfl rfl Hu (by decide) h32_5 r2) fun v35 r35=>?_
 refine Ak rfl (Ax Hu rfl r35) fun v36 r36=>?_
 have g37:=Val.len r36
 refine Aa rfl (Ce (el:=9) Tryd.underlying22 rfl r36) ?_
 refine Aa rfl (Da (p:=(j:Int)) (q:=((m.marks.length:Nat):Int)) rfl rfl) ?_
 apply Ac
 apply k34
 refine As (t:=decide ((j:Int) < ((m.marks.length:Nat):Int))) rfl (fun b38=>?_) (fun b38=>?_)
 ·have q38:=of_decide_eq_true b38
  refine Al ?_
  apply k33
  refine Ai fun K39 k39=>?_
  refine Ao ?_
  refine Ai fun K40 k40=>?_
  refine Dc [0,1,2,3,4,5,6,7,8,9,10,11,12,13,14,15,16,17,18,19,20,21,22,23,24,25,26,27,28,29,30] (by kernel_rfl) rfl rfl ?_
  refine Cd (i:=0) [o1,o0,o0,o0,o0,o0,o0,o0,o0,o0,o0,o0,o0,o0,o0,o0,o0,o0,o0,o0,o0,o0,o0,o0,o0,o0,o0,o0,o0,o0,o0] rfl (by kernel_rfl) rfl Ary rfl (Ay Market.f_fields Tryd.underlying26 rfl rfl Se (by decide) h32_5 r2) fun v41 r41=>?_
  refine Cd (i:=1) [o1,o1,o0,o0,o0,o0,o0,o0,o0,o0,o0,o0,o0,o0,o0,o0,o0,o0,o0,o0,o0,o0,o0,o0,o0,o0,o0,o0,o0,o0,o0] rfl (by kernel_rfl) rfl Ary rfl (Ax Se rfl r41) fun v42 r42=>?_
  refine Be (i:=2) [o1,o1,o1,o0,o0,o0,o0,o0,o0,o0,o0,o0,o0,o0,o0,o0,o0,o0,o0,o0,o0,o0,o0,o0,o0,o0,o0,o0,o0,o0,o0] rfl (by kernel_rfl) rfl Ary rfl (Ah (v:=(iV ((i:Int)))) h32_11) ?_
  refine Cd (i:=3) [o1,o1,o1,o1,o0,o0,o0,o0,o0,o0,o0,o0,o0,o0,o0,o0,o0,o0,o0,o0,o0,o0,o0,o0,o0,o0,o0,o0,o0,o0,o0] rfl (by kernel_rfl) rfl Ary rfl (Ci i Tryd.underlying23 Ln rfl r42 (q:=(i:Int)) rfl rfl ha30) fun v43 r43=>?_
  refine Cd (i:=4) [o1,o1,o1,o1,o1,o0,o0,o0,o0,o0,o0,o0,o0,o0,o0,o0,o0,o0,o0,o0,o0,o0,o0,o0,o0,o0,o0,o0,o0,o0,o0] rfl (by kernel_rfl) rfl Ary rfl (Ay FField.f_marks Tryd.underlying67 rfl rfl Ty (by decide) rfl r43) fun v44 r44=>?_
  refine Cd (i:=5) [o1,o1,o1,o1,o1,o1,o0,o0,o0,o0,o0,o0,o0,o0,o0,o0,o0,o0,o0,o0,o0,o0,o0,o0,o0,o0,o0,o0,o0,o0,o0] rfl (by kernel_rfl) rfl Ary rfl (Ax Ty rfl r44) fun v45 r45=>?_
  refine Be (i:=6) [o1,o1,o1,o1,o1,o1,o1,o0,o0,o0,o0,o0,o0,o0,o0,o0,o0,o0,o0,o0,o0,o0,o0,o0,o0,o0,o0,o0,o0,o0,o0] rfl (by kernel_rfl) rfl Ary rfl (Ah (v:=(iV ((j:Int)))) h32_17) ?_
  obtain ⟨a47,ha47⟩:=Ed (xs:=a30.marks) (i:=j) (by omega)
  obtain ⟨o48a,o48b,o48c⟩:=gf_a30.2 _ _ ha47
  refine Cd (i:=7) [o1,o1,o1,o1,o1,o1,o1,o1,o0,o0,o0,o0,o0,o0,o0,o0,o0,o0,o0,o0,o0,o0,o0,o0,o0,o0,o0,o0,o0,o0,o0] rfl (by kernel_rfl) rfl Ary rfl (Ci j Tryd.underlying27 Mx rfl r45 (q:=(j:Int)) rfl rfl ha47) fun v46 r46=>?_
  refine Cd (i:=8) [o1,o1,o1,o1,o1,o1,o1,o1,o1,o0,o0,o0,o0,o0,o0,o0,o0,o0,o0,o0,o0,o0,o0,o0,o0,o0,o0,o0,o0,o0,o0] rfl (by kernel_rfl) rfl Ary rfl (Ax Mx rfl r46) fun v49 r49=>?_
  refine Be (i:=9) [o1,o1,o1,o1,o1,o1,o1,o1,o1,o1,o0,o0,o0,o0,o0,o0,o0,o0,o0,o0,o0,o0,o0,o0,o0,o0,o0,o0,o0,o0,o0] rfl (by kernel_rfl) rfl Ary rfl (Ah (v:=vk) h32_4) ?_
  refine Be (i:=10) [o1,o1,o1,o1,o1,o1,o1,o1,o1,o1,o1,o0,o0,o0,o0,o0,o0,o0,o0,o0,o0,o0,o0,o0,o0,o0,o0,o0,o0,o0,o0] rfl (by kernel_rfl) rfl Ary rfl (Ah (v:=(iV ((j:Int)))) h32_17) ?_
  refine Be (i:=11) [o1,o1,o1,o1,o1,o1,o1,o1,o1,o1,o1,o1,o0,o0,o0,o0,o0,o0,o0,o0,o0,o0,o0,o0,o0,o0,o0,o0,o0,o0,o0] rfl (by kernel_rfl) rfl Ary rfl (Vz (p:=4) (q:=(j:Int)) rfl rfl (z:=(((4 * j):Nat):Int)) (Bo (by first | rfl | omega | (push_cast; rfl)) (by omega) (by omega))) ?_
  refine Cd (i:=14) [o1,o1,o1,o1,o1,o1,o1,o1,o1,o1,o1,o1,o0,o0,o1,o0,o0,o0,o0,o0,o0,o0,o0,o0,o0,o0,o0,o0,o0,o0,o0] rfl (by kernel_rfl) rfl Ary rfl (Ay Market.f_fields Tryd.underlying26 rfl rfl Se (by decide) h32_5 r2) fun v50 r50=>?_
  refine Cd (i:=15) [o1,o1,o1,o1,o1,o1,o1,o1,o1,o1,o1,o1,o0,o0,o1,o1,o0,o0,o0,o0,o0,o0,o0,o0,o0,o0,o0,o0,o0,o0,o0] rfl (by kernel_rfl) rfl Ary rfl (Ax Se rfl r50) fun v51 r51=>?_
  refine Be (i:=16) [o1,o1,o1,o1,o1,o1,o1,o1,o1,o1,o1,o1,o0,o0,o1,o1,o1,o0,o0,o0,o0,o0,o0,o0,o0,o0,o0,o0,o0,o0,o0] rfl (by kernel_rfl) rfl Ary rfl (Ah (v:=(iV ((k:Int)))) h32_12) ?_
  refine Cd (i:=17) [o1,o1,o1,o1,o1,o1,o1,o1,o1,o1,o1,o1,o0,o0,o1,o1,o1,o1,o0,o0,o0,o0,o0,o0,o0,o0,o0,o0,o0,o0,o0] rfl (by kernel_rfl) rfl Ary rfl (Ci k Tryd.underlying23 Ln rfl r51 (q:=(k:Int)) rfl rfl ha31) fun v52 r52=>?_
  refine Cd (i:=18) [o1,o1,o1,o1,o1,o1,o1,o1,o1,o1,o1,o1,o0,o0,o1,o1,o1,o1,o1,o0,o0,o0,o0,o0,o0,o0,o0,o0,o0,o0,o0] rfl (by kernel_rfl) rfl Ary rfl (Ay FField.f_marks Tryd.underlying67 rfl rfl Ty (by decide) rfl r52) fun v53 r53=>?_
  refine Cd (i:=19) [o1,o1,o1,o1,o1,o1,o1,o1,o1,o1,o1,o1,o0,o0,o1,o1,o1,o1,o1,o1,o0,o0,o0,o0,o0,o0,o0,o0,o0,o0,o0] rfl (by kernel_rfl) rfl Ary rfl (Ax Ty rfl r53) fun v54 r54=>?_
  refine Be (i:=20) [o1,o1,o1,o1,o1,o1,o1,o1,o1,o1,o1,o1,o0,o0,o1,o1,o1,o1,o1,o1,o1,o0,o0,o0,o0,o0,o0,o0,o0,o0,o0] rfl (by kernel_rfl) rfl Ary rfl (Ah (v:=(iV ((j:Int)))) h32_17) ?_
  obtain ⟨a56,ha56⟩:=Ed (xs:=a31.marks) (i:=j) (by omega)
  obtain ⟨o57a,o57b,o57c⟩:=gf_a31.2 _ _ ha56
  refine Cd (i:=21) [o1,o1,o1,o1,o1,o1,o1,o1,o1,o1,o1,o1,o0,o0,o1,o1,o1,o1,o1,o1,o1,o1,o0,o0,o0,o0,o0,o0,o0,o0,o0] rfl (by kernel_rfl) rfl Ary rfl (Ci j Tryd.underlying27 Mx rfl r54 (q:=(j:Int)) rfl rfl ha56) fun v55 r55=>?_
  refine Cd (i:=22) [o1,o1,o1,o1,o1,o1,o1,o1,o1,o1,o1,o1,o0,o0,o1,o1,o1,o1,o1,o1,o1,o1,o1,o0,o0,o0,o0,o0,o0,o0,o0] rfl (by kernel_rfl) rfl Ary rfl (Ax Mx rfl r55) fun v58 r58=>?_
  refine Be (i:=23) [o1,o1,o1,o1,o1,o1,o1,o1,o1,o1,o1,o1,o0,o0,o1,o1,o1,o1,o1,o1,o1,o1,o1,o1,o0,o0,o0,o0,o0,o0,o0] rfl (by kernel_rfl) rfl Ary rfl (Ah (v:=vk) h32_4) ?_
  refine Be (i:=24) [o1,o1,o1,o1,o1,o1,o1,o1,o1,o1,o1,o1,o0,o0,o1,o1,o1,o1,o1,o1,o1,o1,o1,o1,o1,o0,o0,o0,o0,o0,o0] rfl (by kernel_rfl) rfl Ary rfl (Ah (v:=(iV ((j:Int)))) h32_17) ?_
  refine Be (i:=25) [o1,o1,o1,o1,o1,o1,o1,o1,o1,o1,o1,o1,o0,o0,o1,o1,o1,o1,o1,o1,o1,o1,o1,o1,o1,o1,o0,o0,o0,o0,o0] rfl (by kernel_rfl) rfl Ary rfl (Vz (p:=4) (q:=(j:Int)) rfl rfl (z:=(((4 * j):Nat):Int)) (Bo (by first | rfl | omega | (push_cast; rfl)) (by omega) (by omega))) ?_
  refine Be (i:=26) [o1,o1,o1,o1,o1,o1,o1,o1,o1,o1,o1,o1,o0,o0,o1,o1,o1,o1,o1,o1,o1,o1,o1,o1,o1,o1,o1,o0,o0,o0,o0] rfl (by kernel_rfl) rfl Ary rfl (Br (p:=(((4 * j):Nat):Int)) (q:=1) rfl rfl (z:=((((4 * j) + 1):Nat):Int)) (Bo (by first | rfl | omega | (push_cast; rfl)) (by omega) (by omega))) ?_
  have hch59:=chooseN_lt (l:=picks) (k:=((4 * j)))
  refine Dj (i:=12) [o1,o1,o1,o1,o1,o1,o1,o1,o1,o1,o1,o1,o1,o0,o1,o1,o1,o1,o1,o1,o1,o1,o1,o1,o1,o1,o1,o0,o0,o0,o0] rfl (by kernel_rfl) rfl rfl (Bn (vs:=[vk,(iV ((((4 * j):Nat):Int)))]) (v:=(iV ((((chooseN picks ((4 * j))):Nat):Int)))) (c_choose rk) Tryd.func30 rfl rfl ⟨rfl,rfl,trivial⟩ ⟨Ary,?_⟩)
  have ho60:=one_in (x:=a47) (b:=(chooseN picks ((4 * j)))) (by omega)
  refine Dj (i:=13) [o1,o1,o1,o1,o1,o1,o1,o1,o1,o1,o1,o1,o1,o1,o1,o1,o1,o1,o1,o1,o1,o1,o1,o1,o1,o1,o1,o0,o0,o0,o0] rfl (by kernel_rfl) rfl rfl (Bn (vs:=[v49,(iV ((((chooseN picks ((4 * j))):Nat):Int)))]) (v:=(iV ((oneI a47 ((chooseN picks ((4 * j)))))))) (c_one r49 ⟨by omega,by omega,by omega⟩ (by omega)) Tryd.func35 rfl rfl ⟨rfl,rfl,trivial⟩ ⟨Ary,?_⟩)
  have hch61:=chooseN_lt (l:=picks) (k:=(((4 * j) + 1)))
  refine Dj (i:=27) [o1,o1,o1,o1,o1,o1,o1,o1,o1,o1,o1,o1,o1,o1,o1,o1,o1,o1,o1,o1,o1,o1,o1,o1,o1,o1,o1,o1,o0,o0,o0] rfl (by kernel_rfl) rfl rfl (Bn (vs:=[vk,(iV (((((4 * j) + 1):Nat):Int)))]) (v:=(iV ((((chooseN picks (((4 * j) + 1))):Nat):Int)))) (c_choose rk) Tryd.func30 rfl rfl ⟨rfl,rfl,trivial⟩ ⟨Ary,?_⟩)
  have ho62:=one_in (x:=a56) (b:=(chooseN picks (((4 * j) + 1)))) (by omega)
  refine Dj (i:=28) [o1,o1,o1,o1,o1,o1,o1,o1,o1,o1,o1,o1,o1,o1,o1,o1,o1,o1,o1,o1,o1,o1,o1,o1,o1,o1,o1,o1,o1,o0,o0] rfl (by kernel_rfl) rfl rfl (Bn (vs:=[v58,(iV ((((chooseN picks (((4 * j) + 1))):Nat):Int)))]) (v:=(iV ((oneI a56 ((chooseN picks (((4 * j) + 1)))))))) (c_one r58 ⟨by omega,by omega,by omega⟩ (by omega)) Tryd.func35 rfl rfl ⟨rfl,rfl,trivial⟩ ⟨Ary,?_⟩)
  refine Bg (i:=29) [o1,o1,o1,o1,o1,o1,o1,o1,o1,o1,o1,o1,o1,o1,o1,o1,o1,o1,o1,o1,o1,o1,o1,o1,o1,o1,o1,o1,o1,o1,o0] rfl (by kernel_rfl) rfl Ary rfl (Cp (v:=(iV ((oneI a47 ((chooseN picks ((4 * j)))))))) rfl) ?_
  refine Bg (i:=30) [o1,o1,o1,o1,o1,o1,o1,o1,o1,o1,o1,o1,o1,o1,o1,o1,o1,o1,o1,o1,o1,o1,o1,o1,o1,o1,o1,o1,o1,o1,o1] rfl (by kernel_rfl) rfl Ary rfl (Cp (v:=(iV ((oneI a56 ((chooseN picks (((4 * j) + 1)))))))) rfl) ?_
  refine Ec rfl ?_
  apply k40
  refine w_q rfl rfl fun K63 k63=>?_
  refine Aa rfl (Ah (v:=vk) h32_4) ?_
  refine Aa rfl (Ah (v:=(iV ((j:Int)))) h32_17) ?_
  refine Aa rfl (Vz (p:=4) (q:=(j:Int)) rfl rfl (z:=(((4 * j):Nat):Int)) (Bo (by first | rfl | omega | (push_cast; rfl)) (by omega) (by omega))) ?_
  refine Aa rfl (Br (p:=(((4 * j):Nat):Int)) (q:=2) rfl rfl (z:=((((4 * j) + 2):Nat):Int)) (Bo (by first | rfl | omega | (push_cast; rfl)) (by omega) (by omega))) ?_
  have hch64:=chooseN_lt (l:=picks) (k:=(((4 * j) + 2)))
  refine Ae rfl (Bn (vs:=[vk,(iV (((((4 * j) + 2):Nat):Int)))]) (v:=(iV ((((chooseN picks (((4 * j) + 2))):Nat):Int)))) (c_choose rk) Tryd.func30 rfl rfl ⟨rfl,rfl,trivial⟩ ?_)
  refine Aa rfl (y_rem (p:=(((chooseN picks (((4 * j) + 2))):Nat):Int)) (q:=40) rfl rfl (by omega) (z:=((((chooseN picks (((4 * j) + 2))) % 40):Nat):Int)) rfl) ?_
  refine Aa rfl (Ah (v:=vk) h32_4) ?_
  refine Aa rfl (Ah (v:=(iV ((j:Int)))) h32_17) ?_
  refine Aa rfl (Vz (p:=4) (q:=(j:Int)) rfl rfl (z:=(((4 * j):Nat):Int)) (Bo (by first | rfl | omega | (push_cast; rfl)) (by omega) (by omega))) ?_
  refine Aa rfl (Br (p:=(((4 * j):Nat):Int)) (q:=3) rfl rfl (z:=((((4 * j) + 3):Nat):Int)) (Bo (by first | rfl | omega | (push_cast; rfl)) (by omega) (by omega))) ?_
  have hch65:=chooseN_lt (l:=picks) (k:=(((4 * j) + 3)))
  refine Ae rfl (Bn (vs:=[vk,(iV (((((4 * j) + 3):Nat):Int)))]) (v:=(iV ((((chooseN picks (((4 * j) + 3))):Nat):Int)))) (c_choose rk) Tryd.func30 rfl rfl ⟨rfl,rfl,trivial⟩ ?_)
  refine Aa rfl (y_rem (p:=(((chooseN picks (((4 * j) + 3))):Nat):Int)) (q:=40) rfl rfl (by omega) (z:=((((chooseN picks (((4 * j) + 3))) % 40):Nat):Int)) rfl) ?_
  refine l_A (iV (((((chooseN picks (((4 * j) + 2))) % 40):Nat):Int))) rfl rfl ?_
  refine l_A (iV (((((chooseN picks (((4 * j) + 3))) % 40):Nat):Int))) rfl rfl ?_
  apply Ac
  apply k63
  refine w_q rfl rfl fun K66 k66=>?_
  refine Aa rfl (Ah (v:=ov32_14) h32_14) ?_
  refine l_M (iV ((oneI a47 ((chooseN picks ((4 * j))))))) rfl rfl ?_
  refine l_M (iV (((((chooseN picks (((4 * j) + 2))) % 40):Nat):Int))) rfl rfl ?_
  refine Aa rfl (Oq (p:=(oneI a47 ((chooseN picks ((4 * j)))))) (q:=((((chooseN picks (((4 * j) + 2))) % 40):Nat):Int)) rfl rfl (z:=((oneI a47 ((chooseN picks ((4 * j))))) - ((((chooseN picks (((4 * j) + 2))) % 40):Nat):Int))) (Bo (by rfl) (by omega) (by omega))) ?_
  refine Aa rfl (Aqd (p:=0) (q:=((oneI a47 ((chooseN picks ((4 * j))))) - ((((chooseN picks (((4 * j) + 2))) % 40):Nat):Int))) rfl rfl) ?_
  refine l_M (iV ((oneI a47 ((chooseN picks ((4 * j))))))) rfl rfl ?_
  refine l_M (iV (((((chooseN picks (((4 * j) + 3))) % 40):Nat):Int))) rfl rfl ?_
  refine Aa rfl (Br (p:=(oneI a47 ((chooseN picks ((4 * j)))))) (q:=((((chooseN picks (((4 * j) + 3))) % 40):Nat):Int)) rfl rfl (z:=((oneI a47 ((chooseN picks ((4 * j))))) + ((((chooseN picks (((4 * j) + 3))) % 40):Nat):Int))) (Bo (by rfl) (by omega) (by omega))) ?_
  refine Aa rfl (Aju (p:=1000) (q:=((oneI a47 ((chooseN picks ((4 * j))))) + ((((chooseN picks (((4 * j) + 3))) % 40):Nat):Int))) rfl rfl) ?_
  refine Ae rfl (Cm (vs:=[(iV ((max 0 (((oneI a47 ((chooseN picks ((4 * j))))) - ((((chooseN picks (((4 * j) + 2))) % 40):Nat):Int)))))),(iV ((min 1000 (((oneI a47 ((chooseN picks ((4 * j))))) + ((((chooseN picks (((4 * j) + 3))) % 40):Nat):Int))))))]) (Hy (a:=(max 0 (((oneI a47 ((chooseN picks ((4 * j))))) - ((((chooseN picks (((4 * j) + 2))) % 40):Nat):Int))))) (b:=(min 1000 (((oneI a47 ((chooseN picks ((4 * j))))) + ((((chooseN picks (((4 * j) + 3))) % 40):Nat):Int))))) (by constructor <;> omega) (by constructor <;> omega)) Tryd.func34 rfl rfl ⟨rfl,rfl,trivial⟩ fun v67 ρ67 σ67 hc67=>?_)
  obtain ⟨l67,s67,r67⟩:=hc67
  replace s67:=s67.symm; subst s67
  replace rk:=Asa l67 rk
  replace hg:=Glob.mono l67 hg
  replace r2:=Arv l67 r2
  replace OG32_14:=Grow.mono l67 OG32_14
  replace OG32_15:=Grow.mono l67 OG32_15
  replace OG32_16:=Grow.mono l67 OG32_16
  refine Ae rfl (Bi (α:=Span) (xs:=[(⟨(max 0 (((oneI a47 ((chooseN picks ((4 * j))))) - ((((chooseN picks (((4 * j) + 2))) % 40):Nat):Int)))),(min 1000 (((oneI a47 ((chooseN picks ((4 * j))))) + ((((chooseN picks (((4 * j) + 3))) % 40):Nat):Int))))⟩:Span)]) (vs:=[v67]) Tryd.underlying27 Mx Yn rfl (by decide) (Dl (os:=[.tmp 126]) ⟨rfl,trivial⟩) ⟨r67,trivial⟩ rfl (by decide) fun k68 cs68 R68=>?_)
  have G68:Grow ρ67 65 (.slice (some ⟨k68,0,none⟩) 1 1) ([(⟨(max 0 (((oneI a47 ((chooseN picks ((4 * j))))) - ((((chooseN picks (((4 * j) + 2))) % 40):Nat):Int)))),(min 1000 (((oneI a47 ((chooseN picks ((4 * j))))) + ((((chooseN picks (((4 * j) + 3))) % 40):Nat):Int))))⟩:Span)]:List Span) [(k68,Res.obj (.cells cs68.toArray 65 (0,0)))]:=Bs R68 rfl (by decide)
  refine Ca G68 fun ρ70 l70 r70=>?_
  replace rk:=Asa l70 rk
  replace hg:=Glob.mono l70 hg
  replace r2:=Arv l70 r2
  replace OG32_14:=Grow.mono l70 OG32_14
  replace OG32_15:=Grow.mono l70 OG32_15
  replace OG32_16:=Grow.mono l70 OG32_16
  replace r67:=Asa l70 r67
  refine Ae rfl (Fx (σ:=(og32_15 ++ (og32_16 ++ σ))) (gr:=og32_14) (xs:=(List.range j).map (ownF a30 picks)) (ys:=([(⟨(max 0 (((oneI a47 ((chooseN picks ((4 * j))))) - ((((chooseN picks (((4 * j) + 2))) % 40):Nat):Int)))),(min 1000 (((oneI a47 ((chooseN picks ((4 * j))))) + ((((chooseN picks (((4 * j) + 3))) % 40):Nat):Int))))⟩:Span)]:List Span)) Tryd.underlying27 Tryd.underlying27 (Ab Tryd.typeInfo65) rfl (Nat.le_of_ble_eq_true rfl) rfl rfl rfl rfl OG32_14 r70 (by simp only [List.length_append,List.length_map,List.length_range,List.length_cons,List.length_nil] at *; omega) fun v69 gr69 G69=>?_)
  refine l_A v69 rfl rfl ?_
  apply Ac
  apply k66
  refine w_q rfl rfl fun K71 k71=>?_
  refine Aa rfl (Ah (v:=ov32_16) h32_16) ?_
  refine l_M (iV ((oneI a47 ((chooseN picks ((4 * j))))))) rfl rfl ?_
  refine l_M (iV (((((chooseN picks (((4 * j) + 2))) % 40):Nat):Int))) rfl rfl ?_
  refine Aa rfl (Vz (p:=2) (q:=((((chooseN picks (((4 * j) + 2))) % 40):Nat):Int)) rfl rfl (z:=(((2 * ((chooseN picks (((4 * j) + 2))) % 40)):Nat):Int)) (Bo (by first | rfl | omega | (push_cast; rfl)) (by omega) (by omega))) ?_
  refine Aa rfl (Oq (p:=(oneI a47 ((chooseN picks ((4 * j)))))) (q:=(((2 * ((chooseN picks (((4 * j) + 2))) % 40)):Nat):Int)) rfl rfl (z:=((oneI a47 ((chooseN picks ((4 * j))))) - (((2 * ((chooseN picks (((4 * j) + 2))) % 40)):Nat):Int))) (Bo (by rfl) (by omega) (by omega))) ?_
  refine Aa rfl (Aqd (p:=0) (q:=((oneI a47 ((chooseN picks ((4 * j))))) - (((2 * ((chooseN picks (((4 * j) + 2))) % 40)):Nat):Int))) rfl rfl) ?_
  refine l_M (iV ((oneI a47 ((chooseN picks ((4 * j))))))) rfl rfl ?_
  refine l_M (iV (((((chooseN picks (((4 * j) + 3))) % 40):Nat):Int))) rfl rfl ?_
  refine Aa rfl (Vz (p:=2) (q:=((((chooseN picks (((4 * j) + 3))) % 40):Nat):Int)) rfl rfl (z:=(((2 * ((chooseN picks (((4 * j) + 3))) % 40)):Nat):Int)) (Bo (by first | rfl | omega | (push_cast; rfl)) (by omega) (by omega))) ?_
  refine Aa rfl (Br (p:=(oneI a47 ((chooseN picks ((4 * j)))))) (q:=(((2 * ((chooseN picks (((4 * j) + 3))) % 40)):Nat):Int)) rfl rfl (z:=((oneI a47 ((chooseN picks ((4 * j))))) + (((2 * ((chooseN picks (((4 * j) + 3))) % 40)):Nat):Int))) (Bo (by rfl) (by omega) (by omega))) ?_
  refine Aa rfl (Aju (p:=1000) (q:=((oneI a47 ((chooseN picks ((4 * j))))) + (((2 * ((chooseN picks (((4 * j) + 3))) % 40)):Nat):Int))) rfl rfl) ?_
  refine Ae rfl (Cm (vs:=[(iV ((max 0 (((oneI a47 ((chooseN picks ((4 * j))))) - (((2 * ((chooseN picks (((4 * j) + 2))) % 40)):Nat):Int)))))),(iV ((min 1000 (((oneI a47 ((chooseN picks ((4 * j))))) + (((2 * ((chooseN picks (((4 * j) + 3))) % 40)):Nat):Int))))))]) (Hy (a:=(max 0 (((oneI a47 ((chooseN picks ((4 * j))))) - (((2 * ((chooseN picks (((4 * j) + 2))) % 40)):Nat):Int))))) (b:=(min 1000 (((oneI a47 ((chooseN picks ((4 * j))))) + (((2 * ((chooseN picks (((4 * j) + 3))) % 40)):Nat):Int))))) (by constructor <;> omega) (by constructor <;> omega)) Tryd.func34 rfl rfl ⟨rfl,rfl,trivial⟩ fun v72 ρ72 σ72 hc72=>?_)
  obtain ⟨l72,s72,r72⟩:=hc72
  replace s72:=s72.symm; subst s72
  replace rk:=Asa l72 rk
  replace hg:=Glob.mono l72 hg
  replace r2:=Arv l72 r2
  replace OG32_15:=Grow.mono l72 OG32_15
  replace OG32_16:=Grow.mono l72 OG32_16
  replace G69:=Grow.mono l72 G69
  refine Ae rfl (Bi (α:=Span) (xs:=[(⟨(max 0 (((oneI a47 ((chooseN picks ((4 * j))))) - (((2 * ((chooseN picks (((4 * j) + 2))) % 40)):Nat):Int)))),(min 1000 (((oneI a47 ((chooseN picks ((4 * j))))) + (((2 * ((chooseN picks (((4 * j) + 3))) % 40)):Nat):Int))))⟩:Span)]) (vs:=[v72]) Tryd.underlying27 Mx Yn rfl (by decide) (Dl (os:=[.tmp 140]) ⟨rfl,trivial⟩) ⟨r72,trivial⟩ rfl (by decide) fun k73 cs73 R73=>?_)
  have G73:Grow ρ72 65 (.slice (some ⟨k73,0,none⟩) 1 1) ([(⟨(max 0 (((oneI a47 ((chooseN picks ((4 * j))))) - (((2 * ((chooseN picks (((4 * j) + 2))) % 40)):Nat):Int)))),(min 1000 (((oneI a47 ((chooseN picks ((4 * j))))) + (((2 * ((chooseN picks (((4 * j) + 3))) % 40)):Nat):Int))))⟩:Span)]:List Span) [(k73,Res.obj (.cells cs73.toArray 65 (0,0)))]:=Bs R73 rfl (by decide)
  refine Ca G73 fun ρ75 l75 r75=>?_
  replace rk:=Asa l75 rk
  replace hg:=Glob.mono l75 hg
  replace r2:=Arv l75 r2
  replace OG32_15:=Grow.mono l75 OG32_15
  replace OG32_16:=Grow.mono l75 OG32_16
  replace G69:=Grow.mono l75 G69
  replace r72:=Asa l75 r72
  refine Bj (σ':=(og32_16 ++ (gr69 ++ (og32_15 ++ σ)))) (Arx ((List.Perm.append_left gr69 (List.perm_append_comm_assoc og32_15 og32_16 _)).trans (List.perm_append_comm_assoc gr69 og32_16 _))) ?_
  refine Ae rfl (Fx (σ:=(gr69 ++ (og32_15 ++ σ))) (gr:=og32_16) (xs:=(List.range j).map (wideF a30 picks)) (ys:=([(⟨(max 0 (((oneI a47 ((chooseN picks ((4 * j))))) - (((2 * ((chooseN picks (((4 * j) + 2))) % 40)):Nat):Int)))),(min 1000 (((oneI a47 ((chooseN picks ((4 * j))))) + (((2 * ((chooseN picks (((4 * j) + 3))) % 40)):Nat):Int))))⟩:Span)]:List Span)) Tryd.underlying27 Tryd.underlying27 (Ab Tryd.typeInfo65) rfl (Nat.le_of_ble_eq_true rfl) rfl rfl rfl rfl OG32_16 r75 (by simp only [List.length_append,List.length_map,List.length_range,List.length_cons,List.length_nil] at *; omega) fun v74 gr74 G74=>?_)
  refine l_A v74 rfl rfl ?_
  apply Ac
  apply k71
  refine w_q rfl rfl fun K76 k76=>?_
  refine Aa rfl (Ah (v:=(iV ((((1 + (part % 99)):Nat):Int)))) h32_13) ?_
  refine l_M (iV ((oneI a47 ((chooseN picks ((4 * j))))))) rfl rfl ?_
  have mm77:=Aee (p:=(((1 + (part % 99)):Nat):Int)) (x:=(oneI a47 ((chooseN picks ((4 * j)))))) (by omega) (by omega)
  refine Aa rfl (Vz (p:=(((1 + (part % 99)):Nat):Int)) (q:=(oneI a47 ((chooseN picks ((4 * j)))))) rfl rfl (z:=((((1 + (part % 99)):Nat):Int) * (oneI a47 ((chooseN picks ((4 * j))))))) (Bo rfl (by omega) (by omega))) ?_
  refine Aa rfl (Ah (v:=(iV ((((1 + (part % 99)):Nat):Int)))) h32_13) ?_
  refine Aa rfl (Oq (p:=100) (q:=(((1 + (part % 99)):Nat):Int)) rfl rfl (z:=(100 - (((1 + (part % 99)):Nat):Int))) (Bo (by first | rfl | omega | (push_cast; rfl)) (by omega) (by omega))) ?_
  refine l_M (iV ((oneI a56 ((chooseN picks (((4 * j) + 1))))))) rfl rfl ?_
  have mm78:=Aee (p:=(100 - (((1 + (part % 99)):Nat):Int))) (x:=(oneI a56 ((chooseN picks (((4 * j) + 1)))))) (by omega) (by omega)
  refine Aa rfl (Vz (p:=(100 - (((1 + (part % 99)):Nat):Int))) (q:=(oneI a56 ((chooseN picks (((4 * j) + 1)))))) rfl rfl (z:=((100 - (((1 + (part % 99)):Nat):Int)) * (oneI a56 ((chooseN picks (((4 * j) + 1))))))) (Bo rfl (by omega) (by omega))) ?_
  refine Aa rfl (Br (p:=((((1 + (part % 99)):Nat):Int) * (oneI a47 ((chooseN picks ((4 * j))))))) (q:=((100 - (((1 + (part % 99)):Nat):Int)) * (oneI a56 ((chooseN picks (((4 * j) + 1))))))) rfl rfl (z:=(((((1 + (part % 99)):Nat):Int) * (oneI a47 ((chooseN picks ((4 * j)))))) + ((100 - (((1 + (part % 99)):Nat):Int)) * (oneI a56 ((chooseN picks (((4 * j) + 1)))))))) (Bo (by rfl) (by omega) (by omega))) ?_
  refine l_A (iV ((((((1 + (part % 99)):Nat):Int) * (oneI a47 ((chooseN picks ((4 * j)))))) + ((100 - (((1 + (part % 99)):Nat):Int)) * (oneI a56 ((chooseN picks (((4 * j) + 1))))))))) rfl rfl ?_
  apply Ac
  apply k76
  refine Ag rfl rfl ?_
  refine Aa rfl (Ah (v:=ov32_15) h32_15) ?_
  refine l_M (iV ((((((1 + (part % 99)):Nat):Int) * (oneI a47 ((chooseN picks ((4 * j)))))) + ((100 - (((1 + (part % 99)):Nat):Int)) * (oneI a56 ((chooseN picks (((4 * j) + 1))))))))) rfl rfl ?_
  have hqd79:((((((1 + (part % 99)):Nat):Int) * (oneI a47 ((chooseN picks ((4 * j)))))) + ((100 - (((1 + (part % 99)):Nat):Int)) * (oneI a56 ((chooseN picks (((4 * j) + 1)))))))).tdiv 100 = ((((((1 + (part % 99)):Nat):Int) * (oneI a47 ((chooseN picks ((4 * j)))))) + ((100 - (((1 + (part % 99)):Nat):Int)) * (oneI a56 ((chooseN picks (((4 * j) + 1)))))))) / 100:=Int.tdiv_eq_ediv_of_nonneg (by omega)
  refine Aa rfl (y_quo (p:=(((((1 + (part % 99)):Nat):Int) * (oneI a47 ((chooseN picks ((4 * j)))))) + ((100 - (((1 + (part % 99)):Nat):Int)) * (oneI a56 ((chooseN picks (((4 * j) + 1)))))))) (q:=100) rfl rfl (by omega) (z:=(((((((1 + (part % 99)):Nat):Int) * (oneI a47 ((chooseN picks ((4 * j)))))) + ((100 - (((1 + (part % 99)):Nat):Int)) * (oneI a56 ((chooseN picks (((4 * j) + 1)))))))).tdiv 100)) (Bo rfl (by omega) (by omega))) ?_
  refine l_M (iV (((((chooseN picks (((4 * j) + 2))) % 40):Nat):Int))) rfl rfl ?_
  refine Aa rfl (Oq (p:=(((((((1 + (part % 99)):Nat):Int) * (oneI a47 ((chooseN picks ((4 * j)))))) + ((100 - (((1 + (part % 99)):Nat):Int)) * (oneI a56 ((chooseN picks (((4 * j) + 1)))))))).tdiv 100)) (q:=((((chooseN picks (((4 * j) + 2))) % 40):Nat):Int)) rfl rfl (z:=((((((((1 + (part % 99)):Nat):Int) * (oneI a47 ((chooseN picks ((4 * j)))))) + ((100 - (((1 + (part % 99)):Nat):Int)) * (oneI a56 ((chooseN picks (((4 * j) + 1)))))))).tdiv 100) - ((((chooseN picks (((4 * j) + 2))) % 40):Nat):Int))) (Bo (by rfl) (by omega) (by omega))) ?_
  refine Aa rfl (Aqd (p:=0) (q:=((((((((1 + (part % 99)):Nat):Int) * (oneI a47 ((chooseN picks ((4 * j)))))) + ((100 - (((1 + (part % 99)):Nat):Int)) * (oneI a56 ((chooseN picks (((4 * j) + 1)))))))).tdiv 100) - ((((chooseN picks (((4 * j) + 2))) % 40):Nat):Int))) rfl rfl) ?_
  refine l_M (iV ((((((1 + (part % 99)):Nat):Int) * (oneI a47 ((chooseN picks ((4 * j)))))) + ((100 - (((1 + (part % 99)):Nat):Int)) * (oneI a56 ((chooseN picks (((4 * j) + 1))))))))) rfl rfl ?_
  refine Aa rfl (Br (p:=(((((1 + (part % 99)):Nat):Int) * (oneI a47 ((chooseN picks ((4 * j)))))) + ((100 - (((1 + (part % 99)):Nat):Int)) * (oneI a56 ((chooseN picks (((4 * j) + 1)))))))) (q:=99) rfl rfl (z:=((((((1 + (part % 99)):Nat):Int) * (oneI a47 ((chooseN picks ((4 * j)))))) + ((100 - (((1 + (part % 99)):Nat):Int)) * (oneI a56 ((chooseN picks (((4 * j) + 1))))))) + 99)) (Bo (by rfl) (by omega) (by omega))) ?_
  have hqd80:(((((((1 + (part % 99)):Nat):Int) * (oneI a47 ((chooseN picks ((4 * j)))))) + ((100 - (((1 + (part % 99)):Nat):Int)) * (oneI a56 ((chooseN picks (((4 * j) + 1))))))) + 99)).tdiv 100 = (((((((1 + (part % 99)):Nat):Int) * (oneI a47 ((chooseN picks ((4 * j)))))) + ((100 - (((1 + (part % 99)):Nat):Int)) * (oneI a56 ((chooseN picks (((4 * j) + 1))))))) + 99)) / 100:=Int.tdiv_eq_ediv_of_nonneg (by omega)
  refine Aa rfl (y_quo (p:=((((((1 + (part % 99)):Nat):Int) * (oneI a47 ((chooseN picks ((4 * j)))))) + ((100 - (((1 + (part % 99)):Nat):Int)) * (oneI a56 ((chooseN picks (((4 * j) + 1))))))) + 99)) (q:=100) rfl rfl (by omega) (z:=((((((((1 + (part % 99)):Nat):Int) * (oneI a47 ((chooseN picks ((4 * j)))))) + ((100 - (((1 + (part % 99)):Nat):Int)) * (oneI a56 ((chooseN picks (((4 * j) + 1))))))) + 99)).tdiv 100)) (Bo rfl (by omega) (by omega))) ?_
  refine l_M (iV (((((chooseN picks (((4 * j) + 3))) % 40):Nat):Int))) rfl rfl ?_
  refine Aa rfl (Br (p:=((((((((1 + (part % 99)):Nat):Int) * (oneI a47 ((chooseN picks ((4 * j)))))) + ((100 - (((1 + (part % 99)):Nat):Int)) * (oneI a56 ((chooseN picks (((4 * j) + 1))))))) + 99)).tdiv 100)) (q:=((((chooseN picks (((4 * j) + 3))) % 40):Nat):Int)) rfl rfl (z:=(((((((((1 + (part % 99)):Nat):Int) * (oneI a47 ((chooseN picks ((4 * j)))))) + ((100 - (((1 + (part % 99)):Nat):Int)) * (oneI a56 ((chooseN picks (((4 * j) + 1))))))) + 99)).tdiv 100) + ((((chooseN picks (((4 * j) + 3))) % 40):Nat):Int))) (Bo (by rfl) (by omega) (by omega))) ?_
  refine Aa rfl (Aju (p:=1000) (q:=(((((((((1 + (part % 99)):Nat):Int) * (oneI a47 ((chooseN picks ((4 * j)))))) + ((100 - (((1 + (part % 99)):Nat):Int)) * (oneI a56 ((chooseN picks (((4 * j) + 1))))))) + 99)).tdiv 100) + ((((chooseN picks (((4 * j) + 3))) % 40):Nat):Int))) rfl rfl) ?_
  refine Ae rfl (Cm (vs:=[(iV ((max 0 (((((((((1 + (part % 99)):Nat):Int) * (oneI a47 ((chooseN picks ((4 * j)))))) + ((100 - (((1 + (part % 99)):Nat):Int)) * (oneI a56 ((chooseN picks (((4 * j) + 1)))))))).tdiv 100) - ((((chooseN picks (((4 * j) + 2))) % 40):Nat):Int)))))),(iV ((min 1000 ((((((((((1 + (part % 99)):Nat):Int) * (oneI a47 ((chooseN picks ((4 * j)))))) + ((100 - (((1 + (part % 99)):Nat):Int)) * (oneI a56 ((chooseN picks (((4 * j) + 1))))))) + 99)).tdiv 100) + ((((chooseN picks (((4 * j) + 3))) % 40):Nat):Int))))))]) (Hy (a:=(max 0 (((((((((1 + (part % 99)):Nat):Int) * (oneI a47 ((chooseN picks ((4 * j)))))) + ((100 - (((1 + (part % 99)):Nat):Int)) * (oneI a56 ((chooseN picks (((4 * j) + 1)))))))).tdiv 100) - ((((chooseN picks (((4 * j) + 2))) % 40):Nat):Int))))) (b:=(min 1000 ((((((((((1 + (part % 99)):Nat):Int) * (oneI a47 ((chooseN picks ((4 * j)))))) + ((100 - (((1 + (part % 99)):Nat):Int)) * (oneI a56 ((chooseN picks (((4 * j) + 1))))))) + 99)).tdiv 100) + ((((chooseN picks (((4 * j) + 3))) % 40):Nat):Int))))) (by constructor <;> omega) (by constructor <;> omega)) Tryd.func34 rfl rfl ⟨rfl,rfl,trivial⟩ fun v81 ρ81 σ81 hc81=>?_)
  obtain ⟨l81,s81,r81⟩:=hc81
  replace s81:=s81.symm; subst s81
  replace rk:=Asa l81 rk
  replace hg:=Glob.mono l81 hg
  replace r2:=Arv l81 r2
  replace OG32_15:=Grow.mono l81 OG32_15
  replace G69:=Grow.mono l81 G69
  replace G74:=Grow.mono l81 G74
  refine Ae rfl (Bi (α:=Span) (xs:=[(⟨(max 0 (((((((((1 + (part % 99)):Nat):Int) * (oneI a47 ((chooseN picks ((4 * j)))))) + ((100 - (((1 + (part % 99)):Nat):Int)) * (oneI a56 ((chooseN picks (((4 * j) + 1)))))))).tdiv 100) - ((((chooseN picks (((4 * j) + 2))) % 40):Nat):Int)))),(min 1000 ((((((((((1 + (part % 99)):Nat):Int) * (oneI a47 ((chooseN picks ((4 * j)))))) + ((100 - (((1 + (part % 99)):Nat):Int)) * (oneI a56 ((chooseN picks (((4 * j) + 1))))))) + 99)).tdiv 100) + ((((chooseN picks (((4 * j) + 3))) % 40):Nat):Int))))⟩:Span)]) (vs:=[v81]) Tryd.underlying27 Mx Yn rfl (by decide) (Dl (os:=[.tmp 163]) ⟨rfl,trivial⟩) ⟨r81,trivial⟩ rfl (by decide) fun k82 cs82 R82=>?_)
  have G82:Grow ρ81 65 (.slice (some ⟨k82,0,none⟩) 1 1) ([(⟨(max 0 (((((((((1 + (part % 99)):Nat):Int) * (oneI a47 ((chooseN picks ((4 * j)))))) + ((100 - (((1 + (part % 99)):Nat):Int)) * (oneI a56 ((chooseN picks (((4 * j) + 1)))))))).tdiv 100) - ((((chooseN picks (((4 * j) + 2))) % 40):Nat):Int)))),(min 1000 ((((((((((1 + (part % 99)):Nat):Int) * (oneI a47 ((chooseN picks ((4 * j)))))) + ((100 - (((1 + (part % 99)):Nat):Int)) * (oneI a56 ((chooseN picks (((4 * j) + 1))))))) + 99)).tdiv 100) + ((((chooseN picks (((4 * j) + 3))) % 40):Nat):Int))))⟩:Span)]:List Span) [(k82,Res.obj (.cells cs82.toArray 65 (0,0)))]:=Bs R82 rfl (by decide)
  refine Ca G82 fun ρ84 l84 r84=>?_
  replace rk:=Asa l84 rk
  replace hg:=Glob.mono l84 hg
  replace r2:=Arv l84 r2
  replace OG32_15:=Grow.mono l84 OG32_15
  replace G69:=Grow.mono l84 G69
  replace G74:=Grow.mono l84 G74
  replace r81:=Asa l84 r81
  refine Bj (σ':=(og32_15 ++ (gr74 ++ (gr69 ++ σ)))) (Arx ((List.Perm.append_left gr74 (List.perm_append_comm_assoc gr69 og32_15 _)).trans (List.perm_append_comm_assoc gr74 og32_15 _))) ?_
  refine Ae rfl (Fx (σ:=(gr74 ++ (gr69 ++ σ))) (gr:=og32_15) (xs:=(List.range j).map (mixF a30 a31 picks ((1 + (part % 99))))) (ys:=([(⟨(max 0 (((((((((1 + (part % 99)):Nat):Int) * (oneI a47 ((chooseN picks ((4 * j)))))) + ((100 - (((1 + (part % 99)):Nat):Int)) * (oneI a56 ((chooseN picks (((4 * j) + 1)))))))).tdiv 100) - ((((chooseN picks (((4 * j) + 2))) % 40):Nat):Int)))),(min 1000 ((((((((((1 + (part % 99)):Nat):Int) * (oneI a47 ((chooseN picks ((4 * j)))))) + ((100 - (((1 + (part % 99)):Nat):Int)) * (oneI a56 ((chooseN picks (((4 * j) + 1))))))) + 99)).tdiv 100) + ((((chooseN picks (((4 * j) + 3))) % 40):Nat):Int))))⟩:Span)]:List Span)) Tryd.underlying27 Tryd.underlying27 (Ab Tryd.typeInfo65) rfl (Nat.le_of_ble_eq_true rfl) rfl rfl rfl rfl OG32_15 r84 (by simp only [List.length_append,List.length_map,List.length_range,List.length_cons,List.length_nil] at *; omega) fun v83 gr83 G83=>?_)
  refine l_A v83 rfl rfl ?_
  apply Ac
  apply k39
  refine Ag rfl rfl ?_
  refine Aa rfl (Ah (v:=(iV ((j:Int)))) h32_17) ?_
  refine Aa rfl (Br (p:=(j:Int)) (q:=1) rfl rfl (z:=(((j + 1):Nat):Int)) (Bo (by first | rfl | omega | (push_cast; rfl)) (by omega) (by omega))) ?_
  refine l_A (iV ((((j + 1):Nat):Int))) rfl rfl ?_
  refine Bj (σ':=(gr74 ++ (gr83 ++ (gr69 ++ σ)))) (Arx (List.perm_append_comm_assoc gr83 gr74 _)) ?_
  refine Bj (σ':=(gr83 ++ (gr74 ++ (gr69 ++ σ)))) (Arx (List.perm_append_comm_assoc gr74 gr83 _)) ?_
  refine Bj (σ':=(gr69 ++ (gr83 ++ (gr74 ++ σ)))) (Arx ((List.Perm.append_left gr83 (List.perm_append_comm_assoc gr74 gr69 _)).trans (List.perm_append_comm_assoc gr83 gr69 _))) ?_
  apply Ac
  refine ⟨_,?_,((j + 1)),v69,gr69,v83,gr83,v74,gr74,rfl,rfl,(Arz (Arz (Arz (Arz (Arz (Arz l32 l67) l70) l72) l75) l81) l84),rfl,h32_4,h32_5,h32_11,h32_12,h32_13,rfl,rfl,rfl,rfl,(by omega),(Ga (by rw [List.range_succ,List.map_append]; congr 1; simp only [List.map_cons,List.map_nil,ownF,nearS,mixS,aF,cF,ha47,ha56]; rfl) G69),(Ga (by rw [List.range_succ,List.map_append]; congr 1; simp only [List.map_cons,List.map_nil,mixF,nearS,mixS,aF,cF,ha47,ha56]; rw [Int.tdiv_eq_ediv_of_nonneg (by omega),Int.tdiv_eq_ediv_of_nonneg (by omega)]; rfl) G83),(Ga (by rw [List.range_succ,List.map_append]; congr 1; simp only [List.map_cons,List.map_nil,wideF,nearS,mixS,aF,cF,ha47,ha56]; rfl) G74),trivial⟩
  omega
 have q38:=of_decide_eq_false b38
 refine Bx ?_
 apply k28
 refine w_q rfl rfl fun K85 k85=>?_
 refine Ak rfl (Ax Lj h32_5 r2) fun v86 r86=>?_
 refine Aa rfl (Ah (v:=ov32_14) h32_14) ?_
 refine Ca OG32_14 fun ρ87 l87 r87=>?_
 replace rk:=Asa l87 rk
 replace hg:=Glob.mono l87 hg
 replace r2:=Arv l87 r2
 replace OG32_15:=Grow.mono l87 OG32_15
 replace OG32_16:=Grow.mono l87 OG32_16
 replace r86:=Asa l87 r86
 have hj:j = m.marks.length:=by omega
 obtain ⟨lo,hlo⟩:∃ l,Sj m ((List.range j).map (ownF a30 picks)) = l:=⟨_,rfl⟩
 have hlo2:Ee m ((List.range j).map (ownF a30 picks)) = 0:=by rw [hj]; exact own_asked hm0 okf
 have hlo3:(i:Int) ∈ lo:=by rw [← hlo,hj]; exact own_in hm0 ha30 okf
 refine Ae rfl (Cm (vs:=[v86,ov32_14]) (c_OriginX hlo2 hlo r86 r87) Tryd.func18 rfl rfl ⟨rfl,rfl,trivial⟩ fun w88 ρ88 σ88 hc88=>?_)
 obtain ⟨l88,s88,v88_0,w88e,r88_0⟩:=hc88
 replace s88:=s88.symm; subst s88 w88e
 replace rk:=Asa l88 rk
 replace hg:=Glob.mono l88 hg
 replace r2:=Arv l88 r2
 replace OG32_15:=Grow.mono l88 OG32_15
 replace OG32_16:=Grow.mono l88 OG32_16
 replace r86:=Asa l88 r86
 replace r87:=Asa l88 r87
 refine l_M (.tuple #[v88_0,(iV (0))]) rfl rfl ?_
 refine Aa rfl (Bk (vs:=#[v88_0,(iV (0))]) rfl (v:=v88_0) rfl) ?_
 refine Aa rfl (Bk (vs:=#[v88_0,(iV (0))]) rfl (v:=(iV (0))) rfl) ?_
 refine l_A v88_0 rfl rfl ?_
 refine l_A (iV (0)) rfl rfl ?_
 apply Ac
 apply k85
 refine w_q rfl rfl fun K89 k89=>?_
 refine Ak rfl (Ax Lj h32_5 r2) fun v90 r90=>?_
 refine Aa rfl (Ah (v:=ov32_16) h32_16) ?_
 refine Bj (σ':=(og32_16 ++ (og32_15 ++ σ))) (Arx (List.perm_append_comm_assoc og32_15 og32_16 _)) ?_
 refine Ca OG32_16 fun ρ91 l91 r91=>?_
 replace hg:=Glob.mono l91 hg
 replace r2:=Arv l91 r2
 replace OG32_15:=Grow.mono l91 OG32_15
 replace r88_0:=Asa l91 r88_0
 replace r90:=Asa l91 r90
 obtain ⟨lw,hlw⟩:∃ l,Sj m ((List.range j).map (wideF a30 picks)) = l:=⟨_,rfl⟩
 have hlw2:Ee m ((List.range j).map (wideF a30 picks)) = 0:=by rw [hj]; exact wide_asked hm0 okf
 have hlw3:∀ z ∈ lo,z ∈ lw:=by rw [← hlo,← hlw,hj]; exact own_wide hm0 okf
 refine Ae rfl (Cm (vs:=[v90,ov32_16]) (c_OriginX hlw2 hlw r90 r91) Tryd.func18 rfl rfl ⟨rfl,rfl,trivial⟩ fun w92 ρ92 σ92 hc92=>?_)
 obtain ⟨l92,s92,v92_0,w92e,r92_0⟩:=hc92
 replace s92:=s92.symm; subst s92 w92e
 replace hg:=Glob.mono l92 hg
 replace r2:=Arv l92 r2
 replace OG32_15:=Grow.mono l92 OG32_15
 replace r88_0:=Asa l92 r88_0
 replace r90:=Asa l92 r90
 replace r91:=Asa l92 r91
 refine l_M (.tuple #[v92_0,(iV (0))]) rfl rfl ?_
 refine Aa rfl (Bk (vs:=#[v92_0,(iV (0))]) rfl (v:=v92_0) rfl) ?_
 refine Aa rfl (Bk (vs:=#[v92_0,(iV (0))]) rfl (v:=(iV (0))) rfl) ?_
 refine l_A v92_0 rfl rfl ?_
 refine l_A (iV (0)) rfl rfl ?_
 apply Ac
 apply k89
 refine w_q rfl rfl fun K93 k93=>?_
 refine Ak rfl (Ax Lj h32_5 r2) fun v94 r94=>?_
 refine Aa rfl (Ah (v:=ov32_15) h32_15) ?_
 refine Ca OG32_15 fun ρ95 l95 r95=>?_
 replace hg:=Glob.mono l95 hg
 replace r2:=Arv l95 r2
 replace r88_0:=Asa l95 r88_0
 replace r92_0:=Asa l95 r92_0
 replace r94:=Asa l95 r94
 have hA3:Ee m ((List.range j).map (mixF a30 a31 picks ((1 + (part % 99))))) = 0:=by rw [hj]; exact mix_asked hm0 hp99 okf okg
 obtain ⟨x,y,q,found,hB,hB0,hB1⟩:=blend_law hA3 hikn.1 hikn.2 hp99 (fun _=>by rw [hj]; exact mix_in ha30 ha31 hp99 okf okg)
 have ok36:=(Zm hA3).1
 refine Ae rfl (Bn (vs:=[v94,ov32_15]) (v:=(.tuple #[(iV ((x:Int))),(iV ((y:Int))),(iV ((q:Int))),(.bool (found)),(iV (0))])) (c_BlendY hB r94 r95) Tryd.func21 rfl rfl ⟨rfl,rfl,trivial⟩ ?_)
 refine l_M (.tuple #[(iV ((x:Int))),(iV ((y:Int))),(iV ((q:Int))),(.bool (found)),(iV (0))]) rfl rfl ?_
 refine Aa rfl (Bk (vs:=#[(iV ((x:Int))),(iV ((y:Int))),(iV ((q:Int))),(.bool (found)),(iV (0))]) rfl (v:=(iV ((x:Int)))) rfl) ?_
 refine Aa rfl (Bk (vs:=#[(iV ((x:Int))),(iV ((y:Int))),(iV ((q:Int))),(.bool (found)),(iV (0))]) rfl (v:=(iV ((y:Int)))) rfl) ?_
 refine Aa rfl (Bk (vs:=#[(iV ((x:Int))),(iV ((y:Int))),(iV ((q:Int))),(.bool (found)),(iV (0))]) rfl (v:=(iV ((q:Int)))) rfl) ?_
 refine Aa rfl (Bk (vs:=#[(iV ((x:Int))),(iV ((y:Int))),(iV ((q:Int))),(.bool (found)),(iV (0))]) rfl (v:=(.bool (found))) rfl) ?_
 refine Aa rfl (Bk (vs:=#[(iV ((x:Int))),(iV ((y:Int))),(iV ((q:Int))),(.bool (found)),(iV (0))]) rfl (v:=(iV (0))) rfl) ?_
 refine l_A (iV ((x:Int))) rfl rfl ?_
 refine l_A (iV ((y:Int))) rfl rfl ?_
 refine l_A (iV ((q:Int))) rfl rfl ?_
 refine l_A (.bool (found)) rfl rfl ?_
 refine l_A (iV (0)) rfl rfl ?_
 apply Ac
 apply k93
 refine Ai fun K96 k96=>?_
 refine w_q rfl rfl fun K97 k97=>?_
 refine l_M (iV (0)) rfl rfl ?_
 refine Aa rfl (Dg (p:=0) (q:=0) rfl rfl) ?_
 refine l_M (.bool (false)) rfl rfl ?_
 refine l_M (iV (0)) (Ar rfl rfl rfl rfl) rfl ?_
 refine Aa (Ar rfl rfl rfl rfl) (Dg (p:=0) (q:=0) rfl rfl) ?_
 refine Aa rfl (Bm rfl rfl (v:=(.bool (false))) rfl) ?_
 refine l_M (.bool (false)) rfl rfl ?_
 refine l_M (iV (0)) (Ar rfl rfl rfl rfl) rfl ?_
 refine Aa (Ar rfl rfl rfl rfl) (Dg (p:=0) (q:=0) rfl rfl) ?_
 refine Aa rfl (Bm rfl rfl (v:=(.bool (false))) rfl) ?_
 refine l_M (.bool (false)) rfl rfl ?_
 refine l_M v88_0 (Ar rfl rfl rfl rfl) rfl ?_
 refine Aa (Ar rfl rfl rfl rfl) (Ah (v:=(iV ((i:Int)))) h32_11) ?_
 refine Ae (Ar rfl rfl rfl rfl) (Bn (vs:=[v88_0,(iV ((i:Int)))]) (v:=(.bool (decide ((i:Int) ∈ lo)))) (c_has r88_0) Tryd.func33 rfl rfl ⟨rfl,rfl,trivial⟩ ?_)
 refine Aa (Ar rfl rfl rfl rfl) (Ix (k:=decide ((i:Int) ∈ lo)) rfl) ?_
 refine Aa rfl (Bm rfl rfl (v:=(.bool (!(decide ((i:Int) ∈ lo))))) rfl) ?_
 apply Ac
 apply k97
 refine Cg rfl (not_t (decide_eq_true hlo3)) ?_
 refine Al ?_
 apply k96
 refine Ai fun K98 k98=>?_
 refine w_q rfl rfl fun K99 k99=>?_
 refine l_A (iV (0)) rfl rfl ?_
 apply Ac
 apply k99
 refine Ao ?_
 refine Cc (fun mm ee dd ρ' σ'=>∃ (z:Nat),(lo.length - z) = mm∧[] = dd∧ρ95 = ρ'∧σ = σ'∧ee 5 = (.pointer (some ⟨k2,0,none⟩))∧ee 11 = (iV ((i:Int)))∧ee 12 = (iV ((k:Int)))∧ee 13 = (iV ((((1 + (part % 99)):Nat):Int)))∧ee 15 = ov32_15∧ee 23 = v88_0∧ee 25 = v92_0∧ee 27 = (iV ((x:Int)))∧ee 28 = (iV ((y:Int)))∧ee 29 = (iV ((q:Int)))∧ee 30 = (.bool (found))∧ee 32 = (iV ((z:Int)))∧(z ≤ lo.length)∧True) (m:=_) ⟨0,rfl,rfl,rfl,rfl,h32_5,h32_11,h32_12,h32_13,h32_15,rfl,rfl,rfl,rfl,rfl,rfl,rfl,(Nat.zero_le _),trivial⟩ ?_
 rintro m100 e100 _ _ _ ⟨z,rfl,rfl,rfl,rfl,h100_5,h100_11,h100_12,h100_13,h100_15,h100_23,h100_25,h100_27,h100_28,h100_29,h100_30,h100_32,p100_0,_⟩
 refine Ai fun K101 k101=>?_
 refine w_q rfl rfl fun K102 k102=>?_
 refine Aa rfl (Ah (v:=(iV ((z:Int)))) h100_32) ?_
 refine Aa rfl (Ah (v:=v88_0) h100_23) ?_
 have g103:=Val.len r88_0
 refine Aa rfl (Ce (el:=3) Tryd.underlying30 rfl r88_0) ?_
 refine Aa rfl (Da (p:=(z:Int)) (q:=((lo.length:Nat):Int)) rfl rfl) ?_
 apply Ac
 apply k102
 refine As (t:=decide ((z:Int) < ((lo.length:Nat):Int))) rfl (fun b104=>?_) (fun b104=>?_)
 ·have q104:=of_decide_eq_true b104
  refine Al ?_
  apply k101
  refine Ai fun K105 k105=>?_
  refine Ao ?_
  refine w_q rfl rfl fun K106 k106=>?_
  refine Aa rfl (Ah (v:=v92_0) h100_25) ?_
  refine Aa rfl (Ah (v:=v88_0) h100_23) ?_
  refine Aa rfl (Ah (v:=(iV ((z:Int)))) h100_32) ?_
  obtain ⟨a108,ha108⟩:=Ed (xs:=lo) (i:=z) (by omega)
  refine Ak rfl (Ci z Tryd.underlying30 ty3 rfl r88_0 (q:=(z:Int)) rfl rfl ha108) fun v107 r107=>?_
  have ⟨g109a,g109b⟩:=At.rng r107
  refine Aa rfl (Bc ty3 rfl r107) ?_
  refine Ae rfl (Bn (vs:=[v92_0,(iV (a108))]) (v:=(.bool (decide (a108 ∈ lw)))) (c_has r92_0) Tryd.func33 rfl rfl ⟨rfl,rfl,trivial⟩ ?_)
  refine Aa rfl (Ix (k:=decide (a108 ∈ lw)) rfl) ?_
  apply Ac
  apply k106
  refine Cg rfl (not_t (decide_eq_true (hlw3 _ (List.mem_of_getElem? ha108)))) ?_
  refine Al ?_
  apply k105
  refine Ag rfl rfl ?_
  refine Aa rfl (Ah (v:=(iV ((z:Int)))) h100_32) ?_
  refine Aa rfl (Br (p:=(z:Int)) (q:=1) rfl rfl (z:=(((z + 1):Nat):Int)) (Bo (by first | rfl | omega | (push_cast; rfl)) (by omega) (by omega))) ?_
  refine l_A (iV ((((z + 1):Nat):Int))) rfl rfl ?_
  apply Ac
  refine ⟨_,?_,((z + 1)),rfl,rfl,rfl,rfl,h100_5,h100_11,h100_12,h100_13,h100_15,h100_23,h100_25,h100_27,h100_28,h100_29,h100_30,rfl,(by omega),trivial⟩
  omega
 have q104:=of_decide_eq_false b104
 refine Bx ?_
 apply k98
 refine Ai fun K110 k110=>?_
 refine w_q rfl rfl fun K111 k111=>?_
 refine Aa rfl (Ah (v:=(.bool (found))) h100_30) ?_
 refine Aa rfl (Ix (k:=found) rfl) ?_
 apply Ac
 apply k111
 refine As (t:=!(found)) rfl (fun b112=>?_) (fun b112=>?_)
 ·have b113:=not_eq_t b112
  obtain ⟨hx0,hy0,hq0,hik0⟩:=hB0 b113
  refine w_q rfl rfl fun K114 k114=>?_
  refine Aa rfl (Ah (v:=(iV ((x:Int)))) h100_27) ?_
  refine Aa rfl (Ek (p:=(x:Int)) (q:=0) rfl rfl) ?_
  refine l_M (.bool ((x:Int) == 0)) rfl rfl ?_
  refine Aa (Ar rfl rfl rfl (by rw [hx0]; rfl)) (Ah (v:=(iV ((y:Int)))) h100_28) ?_
  refine Aa (Ar rfl rfl rfl (by rw [hx0]; rfl)) (Ek (p:=(y:Int)) (q:=0) rfl rfl) ?_
  refine Aa rfl (Bt rfl (by rw [hx0]; rfl) (v:=(.bool ((y:Int) == 0))) rfl) ?_
  refine l_M (.bool ((y:Int) == 0)) rfl rfl ?_
  refine Aa (Ar rfl rfl rfl (by rw [hy0]; rfl)) (Ah (v:=(iV ((q:Int)))) h100_29) ?_
  refine Aa (Ar rfl rfl rfl (by rw [hy0]; rfl)) (Ek (p:=(q:Int)) (q:=0) rfl rfl) ?_
  refine Aa rfl (Bt rfl (by rw [hy0]; rfl) (v:=(.bool ((q:Int) == 0))) rfl) ?_
  refine l_M (.bool ((q:Int) == 0)) rfl rfl ?_
  refine Aa (Ar rfl rfl rfl (by rw [hq0]; rfl)) (Ah (v:=(iV ((i:Int)))) h100_11) ?_
  refine Aa (Ar rfl rfl rfl (by rw [hq0]; rfl)) (Ah (v:=(iV ((k:Int)))) h100_12) ?_
  refine Aa (Ar rfl rfl rfl (by rw [hq0]; rfl)) (Ek (p:=(i:Int)) (q:=(k:Int)) rfl rfl) ?_
  refine Aa rfl (Bt rfl (by rw [hq0]; rfl) (v:=(.bool ((i:Int) == (k:Int)))) rfl) ?_
  refine l_M (.bool ((i:Int) == (k:Int))) rfl rfl ?_
  refine Ae (Ar rfl rfl rfl (by rw [hik0]; simp)) (Bn (vs:=[]) (v:=(.bool (true))) (c_tells hg hnr) Tryd.func17 rfl rfl trivial ?_)
  refine Aa rfl (Bt rfl (by rw [hik0]; simp) (v:=(.bool (true))) rfl) ?_
  refine l_A (.bool (true)) rfl rfl ?_
  apply Ac
  apply k114
  refine Aj (Arw (Arz (Arz (Arz (Arz (Arz (Arz l2 l32) l87) l88) l91) l92) l95)) ?_
  refine Aq ?_
  refine hret _ _ _ ?_
  refine ⟨rfl,rfl,Eq.trans (b:=(.bool (true))) rfl ?_⟩
  rfl
 have b115:=not_eq_f b112
 obtain ⟨hx1,hx2,hx3,hx4,hx5,hx6⟩:=hB1 b115
 refine Al ?_
 apply k110
 refine Ai fun K116 k116=>?_
 refine w_q rfl rfl fun K117 k117=>?_
 refine Aa rfl (Ah (v:=(iV ((x:Int)))) h100_27) ?_
 refine Aa rfl (Da (p:=(x:Int)) (q:=0) rfl rfl) ?_
 refine l_M (.bool (decide ((x:Int) < 0))) rfl rfl ?_
 refine Aa (Ar rfl rfl rfl (decide_eq_false (by omega))) (Ah (v:=(iV ((x:Int)))) h100_27) ?_
 refine Aa (Ar rfl rfl rfl (decide_eq_false (by omega))) (Ah (v:=(iV ((y:Int)))) h100_28) ?_
 refine Aa (Ar rfl rfl rfl (decide_eq_false (by omega))) (Uv (p:=(x:Int)) (q:=(y:Int)) rfl rfl) ?_
 refine Aa rfl (Bm rfl (decide_eq_false (by omega)) (v:=(.bool (decide ((x:Int) ≥ (y:Int))))) rfl) ?_
 refine l_M (.bool (decide ((x:Int) ≥ (y:Int)))) rfl rfl ?_
 refine Aa (Ar rfl rfl rfl (decide_eq_false (by omega))) (Ah (v:=(iV ((y:Int)))) h100_28) ?_
 refine Ak (Ar rfl rfl rfl (decide_eq_false (by omega))) (Ay Market.f_fields Tryd.underlying26 rfl rfl Se (by decide) h100_5 r2) fun v118 r118=>?_
 refine Ak (Ar rfl rfl rfl (decide_eq_false (by omega))) (Ax Se rfl r118) fun v119 r119=>?_
 have g120:=Val.len r119
 refine Aa (Ar rfl rfl rfl (decide_eq_false (by omega))) (Ce (el:=67) Tryd.underlying23 rfl r119) ?_
 refine Aa (Ar rfl rfl rfl (decide_eq_false (by omega))) (Uv (p:=(y:Int)) (q:=((m.fields.length:Nat):Int)) rfl rfl) ?_
 refine Aa rfl (Bm rfl (decide_eq_false (by omega)) (v:=(.bool (decide ((y:Int) ≥ ((m.fields.length:Nat):Int))))) rfl) ?_
 refine l_M (.bool (decide ((y:Int) ≥ ((m.fields.length:Nat):Int)))) rfl rfl ?_
 refine Aa (Ar rfl rfl rfl (decide_eq_false (by omega))) (Ah (v:=(iV ((q:Int)))) h100_29) ?_
 refine Aa (Ar rfl rfl rfl (decide_eq_false (by omega))) (Da (p:=(q:Int)) (q:=1) rfl rfl) ?_
 refine Aa rfl (Bm rfl (decide_eq_false (by omega)) (v:=(.bool (decide ((q:Int) < 1)))) rfl) ?_
 refine l_M (.bool (decide ((q:Int) < 1))) rfl rfl ?_
 refine Aa (Ar rfl rfl rfl (decide_eq_false (by omega))) (Ah (v:=(iV ((q:Int)))) h100_29) ?_
 refine Aa (Ar rfl rfl rfl (decide_eq_false (by omega))) (Gk (p:=(q:Int)) (q:=99) rfl rfl) ?_
 refine Aa rfl (Bm rfl (decide_eq_false (by omega)) (v:=(.bool (decide ((q:Int) > 99)))) rfl) ?_
 refine l_M (.bool (decide ((q:Int) > 99))) rfl rfl ?_
 refine Ak (Ar rfl rfl rfl (decide_eq_false (by omega))) (Ax Lj h100_5 r2) fun v121 r121=>?_
 refine Aa (Ar rfl rfl rfl (decide_eq_false (by omega))) (Ah (v:=ov32_15) h100_15) ?_
 refine Aa (Ar rfl rfl rfl (decide_eq_false (by omega))) (Ah (v:=(iV ((x:Int)))) h100_27) ?_
 refine Aa (Ar rfl rfl rfl (decide_eq_false (by omega))) (Ah (v:=(iV ((y:Int)))) h100_28) ?_
 refine Aa (Ar rfl rfl rfl (decide_eq_false (by omega))) (Ah (v:=(iV ((q:Int)))) h100_29) ?_
 obtain ⟨a122,ha122⟩:=Ed (xs:=m.fields) (i:=x) (by omega)
 have gf_a122:=marks_ok ok ha122
 have gl_a122:=gf_a122.1
 obtain ⟨a123,ha123⟩:=Ed (xs:=m.fields) (i:=y) (by omega)
 have gf_a123:=marks_ok ok ha123
 have gl_a123:=gf_a123.1
 refine Ae (Ar rfl rfl rfl (decide_eq_false (by omega))) (Bn (vs:=[v121,ov32_15,(iV ((x:Int))),(iV ((y:Int))),(iV ((q:Int)))]) (v:=(.bool (Gm a122 a123 ((List.range j).map (mixF a30 a31 picks ((1 + (part % 99))))) ((q:Int))))) (c_Mixed r121 r95 ok36 ha122 ha123 (by omega)) Tryd.func36 rfl rfl ⟨rfl,rfl,rfl,rfl,rfl,trivial⟩ ?_)
 refine Aa (Ar rfl rfl rfl (decide_eq_false (by omega))) (Ix (k:=Gm a122 a123 ((List.range j).map (mixF a30 a31 picks ((1 + (part % 99))))) ((q:Int))) rfl) ?_
 refine Aa rfl (Bm rfl (decide_eq_false (by omega)) (v:=(.bool (!(Gm a122 a123 ((List.range j).map (mixF a30 a31 picks ((1 + (part % 99))))) ((q:Int)))))) rfl) ?_
 apply Ac
 apply k117
 refine Cg rfl (not_t (mixes_at hx5 ha122 ha123)) ?_
 refine Al ?_
 apply k116
 refine w_q rfl rfl fun K124 k124=>?_
 refine Aa rfl (Ah (v:=(iV ((i:Int)))) h100_11) ?_
 refine Aa rfl (Ah (v:=(iV ((k:Int)))) h100_12) ?_
 refine Aa rfl (Ek (p:=(i:Int)) (q:=(k:Int)) rfl rfl) ?_
 refine l_M (.bool ((i:Int) == (k:Int))) rfl rfl ?_
 refine Cn ((i:Int) == (k:Int)) (fun b125=>?_) (fun b125=>?_)
 ·have q125:=Jo b125
  refine Ap (Bl rfl rfl rfl b125) ?_
  refine Ap (Bl rfl rfl rfl b125) ?_
  refine Ap (Bl rfl rfl rfl b125) ?_
  refine Aa rfl (Bt rfl b125 (v:=(.bool (true))) rfl) ?_
  refine l_M (.bool (true)) rfl rfl ?_
  refine Ap (Bl rfl rfl rfl rfl) ?_
  refine Ap (Bl rfl rfl rfl rfl) ?_
  refine Ap (Bl rfl rfl rfl rfl) ?_
  refine Ap (Bl rfl rfl rfl rfl) ?_
  refine Ap (Jf rfl rfl rfl) ?_
  refine Ap (Jf rfl rfl rfl) ?_
  refine Ap (Jf rfl rfl rfl) ?_
  refine Ap (Jf rfl rfl rfl) ?_
  refine Ap (Jf rfl rfl rfl) ?_
  refine Ap (Jf rfl rfl rfl) ?_
  refine Ap (Jf rfl rfl rfl) ?_
  refine Ap (Jf rfl rfl rfl) ?_
  refine Ap (Jf rfl rfl rfl) ?_
  refine Ap (Jf rfl rfl rfl) ?_
  refine Ap (Jf rfl rfl rfl) ?_
  refine Ap (Jf rfl rfl rfl) ?_
  refine Ap (Jf rfl rfl rfl) ?_
  refine Ap (Bl rfl rfl rfl rfl) ?_
  refine Aa rfl (Bt rfl rfl (v:=(.bool (true))) rfl) ?_
  refine l_M (.bool (true)) rfl rfl ?_
  refine Ae (Ar rfl rfl rfl rfl) (Bn (vs:=[]) (v:=(.bool (true))) (c_tells hg hnr) Tryd.func17 rfl rfl trivial ?_)
  refine Aa rfl (Bt rfl rfl (v:=(.bool (true))) rfl) ?_
  refine l_A (.bool (true)) rfl rfl ?_
  apply Ac
  apply k124
  refine Aj (Arw (Arz (Arz (Arz (Arz (Arz (Arz l2 l32) l87) l88) l91) l92) l95)) ?_
  refine Aq ?_
  refine hret _ _ _ ?_
  refine ⟨rfl,rfl,Eq.trans (b:=(.bool (true))) rfl ?_⟩
  rfl
 have q125:=La b125
 refine Aa (Ar rfl rfl rfl b125) (Ah (v:=(iV ((x:Int)))) h100_27) ?_
 refine Aa (Ar rfl rfl rfl b125) (Ah (v:=(iV ((i:Int)))) h100_11) ?_
 refine Aa (Ar rfl rfl rfl b125) (Da (p:=(x:Int)) (q:=(i:Int)) rfl rfl) ?_
 refine Aa rfl (Bm rfl b125 (v:=(.bool (decide ((x:Int) < (i:Int))))) rfl) ?_
 refine l_M (.bool (decide ((x:Int) < (i:Int)))) rfl rfl ?_
 refine Cn (decide ((x:Int) < (i:Int))) (fun b126=>?_) (fun b126=>?_)
 ·have q126:=of_decide_eq_true b126
  refine Ap (Bl rfl rfl rfl b126) ?_
  refine Ap (Bl rfl rfl rfl b126) ?_
  refine Ap (Bl rfl rfl rfl b126) ?_
  refine Ap (Bl rfl rfl rfl b126) ?_
  refine Ap (Jf rfl rfl rfl) ?_
  refine Ap (Jf rfl rfl rfl) ?_
  refine Ap (Jf rfl rfl rfl) ?_
  refine Ap (Jf rfl rfl rfl) ?_
  refine Ap (Jf rfl rfl rfl) ?_
  refine Ap (Jf rfl rfl rfl) ?_
  refine Ap (Jf rfl rfl rfl) ?_
  refine Ap (Jf rfl rfl rfl) ?_
  refine Ap (Jf rfl rfl rfl) ?_
  refine Ap (Jf rfl rfl rfl) ?_
  refine Ap (Jf rfl rfl rfl) ?_
  refine Ap (Jf rfl rfl rfl) ?_
  refine Ap (Jf rfl rfl rfl) ?_
  refine Ap (Bl rfl rfl rfl b126) ?_
  refine Aa rfl (Bt rfl b126 (v:=(.bool (true))) rfl) ?_
  refine l_M (.bool (true)) rfl rfl ?_
  refine Ae (Ar rfl rfl rfl rfl) (Bn (vs:=[]) (v:=(.bool (true))) (c_tells hg hnr) Tryd.func17 rfl rfl trivial ?_)
  refine Aa rfl (Bt rfl rfl (v:=(.bool (true))) rfl) ?_
  refine l_A (.bool (true)) rfl rfl ?_
  apply Ac
  apply k124
  refine Aj (Arw (Arz (Arz (Arz (Arz (Arz (Arz l2 l32) l87) l88) l91) l92) l95)) ?_
  refine Aq ?_
  refine hret _ _ _ ?_
  refine ⟨rfl,rfl,Eq.trans (b:=(.bool (true))) rfl ?_⟩
  rfl
 have q126:=of_decide_eq_false b126
 refine Aa (Ar rfl rfl rfl b126) (Ah (v:=(iV ((x:Int)))) h100_27) ?_
 refine Aa (Ar rfl rfl rfl b126) (Ah (v:=(iV ((i:Int)))) h100_11) ?_
 refine Aa (Ar rfl rfl rfl b126) (Ek (p:=(x:Int)) (q:=(i:Int)) rfl rfl) ?_
 refine l_M (.bool ((x:Int) == (i:Int))) (Ar rfl rfl rfl b126) rfl ?_
 refine Cn ((x:Int) == (i:Int)) (fun b127=>?_) (fun b127=>?_)
 ·have q127:=Jo b127
  refine Aa (Ar rfl rfl rfl b127) (Ah (v:=(iV ((y:Int)))) h100_28) ?_
  refine Aa (Ar rfl rfl rfl b127) (Ah (v:=(iV ((k:Int)))) h100_12) ?_
  refine Aa (Ar rfl rfl rfl b127) (Da (p:=(y:Int)) (q:=(k:Int)) rfl rfl) ?_
  refine l_M (.bool (decide ((y:Int) < (k:Int)))) (Ar rfl rfl rfl b127) rfl ?_
  refine Cn (decide ((y:Int) < (k:Int))) (fun b128=>?_) (fun b128=>?_)
  ·have q128:=of_decide_eq_true b128
   refine Ap (Bl rfl rfl rfl b128) ?_
   refine Ap (Bl rfl rfl rfl b128) ?_
   refine Ap (Bl rfl rfl rfl b128) ?_
   refine Ap (Bl rfl rfl rfl b128) ?_
   refine Ap (Jf rfl rfl rfl) ?_
   refine Ap (Jf rfl rfl rfl) ?_
   refine Ap (Jf rfl rfl rfl) ?_
   refine Ap (Bl rfl rfl rfl b128) ?_
   refine Aa (Ar rfl rfl rfl b127) (Bt rfl b128 (v:=(.bool (true))) rfl) ?_
   refine Aa (Ar rfl rfl rfl b126) (Bt rfl b127 (v:=(.bool (true))) rfl) ?_
   refine Aa rfl (Bm rfl b126 (v:=(.bool (true))) rfl) ?_
   refine l_M (.bool (true)) rfl rfl ?_
   refine Ae (Ar rfl rfl rfl rfl) (Bn (vs:=[]) (v:=(.bool (true))) (c_tells hg hnr) Tryd.func17 rfl rfl trivial ?_)
   refine Aa rfl (Bt rfl rfl (v:=(.bool (true))) rfl) ?_
   refine l_A (.bool (true)) rfl rfl ?_
   apply Ac
   apply k124
   refine Aj (Arw (Arz (Arz (Arz (Arz (Arz (Arz l2 l32) l87) l88) l91) l92) l95)) ?_
   refine Aq ?_
   refine hret _ _ _ ?_
   refine ⟨rfl,rfl,Eq.trans (b:=(.bool (true))) rfl ?_⟩
   rfl
  have q128:=of_decide_eq_false b128
  refine Aa (Ar rfl rfl rfl b128) (Ah (v:=(iV ((y:Int)))) h100_28) ?_
  refine Aa (Ar rfl rfl rfl b128) (Ah (v:=(iV ((k:Int)))) h100_12) ?_
  refine Aa (Ar rfl rfl rfl b128) (Ek (p:=(y:Int)) (q:=(k:Int)) rfl rfl) ?_
  refine l_M (.bool ((y:Int) == (k:Int))) (Ar rfl rfl rfl b128) rfl ?_
  refine Cn ((y:Int) == (k:Int)) (fun b129=>?_) (fun b129=>?_)
  ·have q129:=Jo b129
   refine Aa (Ar rfl rfl rfl b129) (Ah (v:=(iV ((q:Int)))) h100_29) ?_
   refine Aa (Ar rfl rfl rfl b129) (Ah (v:=(iV ((((1 + (part % 99)):Nat):Int)))) h100_13) ?_
   refine Aa (Ar rfl rfl rfl b129) (Tx (p:=(q:Int)) (q:=(((1 + (part % 99)):Nat):Int)) rfl rfl) ?_
   refine Aa (Ar rfl rfl rfl b128) (Bt rfl b129 (v:=(.bool (decide ((q:Int) ≤ (((1 + (part % 99)):Nat):Int))))) rfl) ?_
   refine Aa (Ar rfl rfl rfl b127) (Bm rfl b128 (v:=(.bool (decide ((q:Int) ≤ (((1 + (part % 99)):Nat):Int))))) rfl) ?_
   refine Aa (Ar rfl rfl rfl b126) (Bt rfl b127 (v:=(.bool (decide ((q:Int) ≤ (((1 + (part % 99)):Nat):Int))))) rfl) ?_
   refine Aa rfl (Bm rfl b126 (v:=(.bool (decide ((q:Int) ≤ (((1 + (part % 99)):Nat):Int))))) rfl) ?_
   refine l_M (.bool (decide ((q:Int) ≤ (((1 + (part % 99)):Nat):Int)))) rfl rfl ?_
   refine Cn (decide ((q:Int) ≤ (((1 + (part % 99)):Nat):Int))) (fun b130=>?_) (fun b130=>?_)
   ·have q130:=of_decide_eq_true b130
    refine Ae (Ar rfl rfl rfl b130) (Bn (vs:=[]) (v:=(.bool (true))) (c_tells hg hnr) Tryd.func17 rfl rfl trivial ?_)
    refine Aa rfl (Bt rfl b130 (v:=(.bool (true))) rfl) ?_
    refine l_A (.bool (true)) rfl rfl ?_
    apply Ac
    apply k124
    refine Aj (Arw (Arz (Arz (Arz (Arz (Arz (Arz l2 l32) l87) l88) l91) l92) l95)) ?_
    refine Aq ?_
    refine hret _ _ _ ?_
    refine ⟨rfl,rfl,Eq.trans (b:=(.bool (true))) rfl ?_⟩
    rfl
   have q130:=of_decide_eq_false b130
   refine Ap (Bl rfl rfl rfl b130) ?_
   refine Aa rfl (Bm rfl b130 (v:=(.bool (false))) rfl) ?_
   refine l_A (.bool (false)) rfl rfl ?_
   apply Ac
   apply k124
   refine Aj (Arw (Arz (Arz (Arz (Arz (Arz (Arz l2 l32) l87) l88) l91) l92) l95)) ?_
   refine Aq ?_
   refine hret _ _ _ ?_
   refine ⟨rfl,rfl,Eq.trans (b:=(.bool (false))) rfl ?_⟩
   exfalso; omega
  have q129:=La b129
  refine Ap (Bl rfl rfl rfl b129) ?_
  refine Ap (Bl rfl rfl rfl b129) ?_
  refine Ap (Bl rfl rfl rfl b129) ?_
  refine Aa (Ar rfl rfl rfl b128) (Bm rfl b129 (v:=(.bool (false))) rfl) ?_
  refine Aa (Ar rfl rfl rfl b127) (Bm rfl b128 (v:=(.bool (false))) rfl) ?_
  refine Aa (Ar rfl rfl rfl b126) (Bt rfl b127 (v:=(.bool (false))) rfl) ?_
  refine Aa rfl (Bm rfl b126 (v:=(.bool (false))) rfl) ?_
  refine l_M (.bool (false)) rfl rfl ?_
  refine Ap (Bl rfl rfl rfl rfl) ?_
  refine Aa rfl (Bm rfl rfl (v:=(.bool (false))) rfl) ?_
  refine l_A (.bool (false)) rfl rfl ?_
  apply Ac
  apply k124
  refine Aj (Arw (Arz (Arz (Arz (Arz (Arz (Arz l2 l32) l87) l88) l91) l92) l95)) ?_
  refine Aq ?_
  refine hret _ _ _ ?_
  refine ⟨rfl,rfl,Eq.trans (b:=(.bool (false))) rfl ?_⟩
  exfalso; omega
 have q127:=La b127
 refine Ap (Bl rfl rfl rfl b127) ?_
 refine Ap (Bl rfl rfl rfl b127) ?_
 refine Ap (Bl rfl rfl rfl b127) ?_
 refine Ap (Bl rfl rfl rfl b127) ?_
 refine Ap (Jf rfl rfl rfl) ?_
 refine Ap (Jf rfl rfl rfl) ?_
 refine Ap (Jf rfl rfl rfl) ?_
 refine Ap (Jf rfl rfl rfl) ?_
 refine Ap (Jf rfl rfl rfl) ?_
 refine Ap (Jf rfl rfl rfl) ?_
 refine Ap (Jf rfl rfl rfl) ?_
 refine Ap (Jf rfl rfl rfl) ?_
 refine Ap (Bl rfl rfl rfl b127) ?_
 refine Aa (Ar rfl rfl rfl b126) (Bm rfl b127 (v:=(.bool (false))) rfl) ?_
 refine Aa rfl (Bm rfl b126 (v:=(.bool (false))) rfl) ?_
 refine l_M (.bool (false)) rfl rfl ?_
 refine Ap (Bl rfl rfl rfl rfl) ?_
 refine Aa rfl (Bm rfl rfl (v:=(.bool (false))) rfl) ?_
 refine l_A (.bool (false)) rfl rfl ?_
 apply Ac
 apply k124
 refine Aj (Arw (Arz (Arz (Arz (Arz (Arz (Arz l2 l32) l87) l88) l91) l92) l95)) ?_
 refine Aq ?_
 refine hret _ _ _ ?_
 refine ⟨rfl,rfl,Eq.trans (b:=(.bool (false))) rfl ?_⟩
 exfalso; omega
end Go.Proofs.YtoefdnbaklajeaaDoor

namespace Go.Proofs.YtoefdnbaklajeaaDoor
open Go Go.WideShapes Go.ChangeShapes Go.RowKit Go.Conc
set_option maxRecDepth 100000
theorem fakeOrigin_lifted (os:Os) (started:os.Started) (H:Type) (enc:TypeId × Value→H):ReturnsInLeavingWide {} Tryd.checked os 7 .any (Aqs H enc Rows.fakeOriginSpec Tryd.f7) (Rows.fakeOriginSpec.post enc Tryd.prog Tryd.f7 false true false false):=by
  refine law_lift (r:=10) os started H enc Tryd.func7 rfl rfl (by kernel_rfl) (by decide) (fun ds hd=>?_)
    (ChangeSpec.witness_shaped (enc:=enc) (C:=Tryd.checked) (os:=os) (X:=fun w _=>laidMetH Tryd.prog laidL w) false (World.doorLaid Tryd.prog 2000 os) #[.agg #[.slice none 0 0,.slice none 0 0,.slice none 0 0,.slice none 0 0],.int .u8 0,.int .u8 0,.int .u8 0,.slice none 0 0] 8 rfl (World.shaped_of_RefB (by kernel_rfl) (by kernel_rfl)) (by kernel_rfl) (by kernel_rfl) (by kernel_rfl) (door_met os _)) ?_
  · match ds,hd with
    | [d1,d2,d3,d4,d5],_=>rfl
  · intro W args ds ps hv hA hw hg
    obtain ⟨hl1,hl2⟩:=Sa hA
    match args,hl1,ds,hl2,hA with
    | [v1,v2,v3,v4,v5],_,[d1,d2,d3,d4,d5],_,⟨p1,q1,h1,⟨p2,q2,h2,⟨p3,q3,h3,⟨p4,q4,h4,⟨p5,q5,h5,_,_⟩,_⟩,_⟩,_⟩,_⟩ =>
      obtain ⟨b1,k1⟩:=hv 0 26 v1 rfl rfl
      obtain ⟨b2,k2⟩:=hv 1 5 v2 rfl rfl
      obtain ⟨b3,k3⟩:=hv 2 5 v3 rfl rfl
      obtain ⟨b4,k4⟩:=hv 3 5 v4 rfl rfl
      obtain ⟨b5,k5⟩:=hv 4 55 v5 rfl rfl
      obtain ⟨x1,rx1⟩:=arg_struct dec26 rfl Tryd.underlying26 k1 h1 (weights_at hw (j:=0) rfl rfl)
      obtain ⟨x2,rfl,lx2⟩:=arg_u8 Tryd.underlying5 k2 h2
      obtain ⟨x3,rfl,lx3⟩:=arg_u8 Tryd.underlying5 k3 h3
      obtain ⟨x4,rfl,lx4⟩:=arg_u8 Tryd.underlying5 k4 h4
      obtain ⟨x5,rx5⟩:=arg_slice (dec_list Tryd.underlying55 (by kernel_rfl) (Nat.le_of_ble_eq_true (by kernel_rfl)) (by decide) (dec_uh Tryd.underlying68 (by kernel_rfl))) Tryd.underlying55 k5 h5 (weights_at hw (j:=4) rfl rfl)
      exact c_FakeOrigin hg (fun c vs h=>by cases h) rx1 lx2 lx3 lx4 rx5
theorem fakeOrigin_row:Rows.FakeOriginSaid :=
  OpenClaim.holds_of_wide_leaving 7 Tryd.f7 rfl rfl rfl rfl rfl rfl rfl ⟨rfl,rfl,rfl,rfl,rfl⟩ rfl rfl rfl rfl rfl (by kernel_rfl) Tryd.func7 (by kernel_rfl)
    (of_decide_eq_true (by kernel_rfl)) (by unfold Func.isWrapper; first | (rw [if_pos (by decide +kernel)]; kernel_rfl) | (rw [if_neg (by decide +kernel)]; exact ⟨rfl,rfl⟩))
    (fun os started H enc _=>fakeOrigin_lifted os started H enc)
theorem fakeOrigin_holds:Rows.FakeOriginCardSaid :=
  tied_goes .later [.funcs,.data] true (true,"5ad7a6b1106c4d9dff1ffa762e242e88c7338921ee0cf2e26581c2f653fcb6c6") false fakeOrigin_row (by kernel_rfl) fakeOrigin_row_tie rfl ⟨rfl,rfl⟩ (by kernel_rfl) rfl
    (fun f fn hf hfn=>by
      obtain rfl:f = 7:=Option.some.inj ((show Tryd.prog.funcNamed "crocus/crocuslaw08.FakeOrigin" = some 7 by kernel_rfl).symm.trans hf) |>.symm
      obtain rfl:fn = Tryd.f7:=(Option.some.inj (Tryd.func7.symm.trans hfn)).symm
      exact ⟨by kernel_rfl,fun j t ht=>by
        have h2:t = 26∨t = 5∨t = 55:=by
          match j,ht with
          | 0,h=>exact .inl (Option.some.inj h).symm
          | 1,h=>exact .inr (.inl (Option.some.inj h).symm)
          | 2,h=>exact .inr (.inl (Option.some.inj h).symm)
          | 3,h=>exact .inr (.inl (Option.some.inj h).symm)
          | 4,h=>exact .inr (.inr ((Option.some.inj h).symm))
        rcases h2 with rfl | rfl | rfl
        · exact (show Tryd.prog.wantsStandIn 26 = false by kernel_rfl)
        · exact (show Tryd.prog.wantsStandIn 5 = false by kernel_rfl)
        · exact (show Tryd.prog.wantsStandIn 55 = false by kernel_rfl)⟩)
    (by kernel_rfl)
end Go.Proofs.YtoefdnbaklajeaaDoor
