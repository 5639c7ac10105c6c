/- Every call of crocuslaw08.FakeSettled returns true, on every schedule, and leaves its arguments as they were: conditions: the two listed package-level variables hold what the program's text lays. -/
import Derived.Test.YtoefdnbaklajeaaDoorB5
import Derived.Carry
import Derived.ChangeArms
import Derived.ChangeSame
import Derived.ChangeVars
import Derived.Conc.Holds
import Derived.Conc.LeavingOf
import Derived.FnData
import Derived.LaidHandle
import Derived.LaidLaws
import Derived.LaidMore
import Derived.Laws.BitsAllLaws
import Derived.Laws.BitsLemmas
import Derived.OpenShut
import Derived.RowKit
import Derived.SizedLaws
import Derived.Stop.Joined
import Derived.Test.YtoefdnbaklajeaaDoorProg
import Derived.Test.YtoefdnbaklajeaaDoorRows
import Derived.WideShapes
set_option linter.unusedVariables false
set_option linter.unusedSimpArgs false
namespace Go.Proofs.YtoefdnbaklajeaaDoor
open Go
section
variable {C:Ctx} {b:FB} {n:Nat} {l₀ rest:List Oper} {Q:Env→List Deferred→Ro→Own→Prop} {e:Env} {ds:List Deferred} {ρ:Ro} {σ:Own}
end
section
variable {P:Program} {ρ:Ro} {e:Env} {ty t t':TypeId} {x y:Operand} {v:Value}
theorem eqGuard_bool {op:BinOp} {p q:Bool}:eqGuard op t x y (.bool p) (.bool q) = pure ():=by
  cases op <;> rfl
theorem eqGuard_str {op:BinOp} {p q:ByteArray}:eqGuard op t x y (.string p) (.string q) = pure ():=by
  cases op <;> rfl
section
variable {k:IntKind} {p q:Int}
end
end
section
variable {C:Ctx} {b:FB} {n:Nat} {l₀:List Oper} {Q:Env→List Deferred→Ro→Own→Prop} {e:Env} {ds:List Deferred} {ρ ρ₀:Ro} {σ:Own} {pz:List Nat} {fuel:Nat} {listed:Array Bool}
section
variable {d i:Nat} {op:Op} {ty:TypeId} {pos:String} {af:Array Edge} {g:Option (Nat × Bool)} {v:Value} {li:List Bool}
end
end
end Go.Proofs.YtoefdnbaklajeaaDoor

namespace Go.Proofs.YtoefdnbaklajeaaDoor
open Go
section
variable {α:Type} [Dat α] {ρ ρ':Ro}
end
section
variable {P:Program} {ρ:Ro} {σ:Own} {t:TypeId}
end
section
variable {C:Ctx} {b:FB} {n:Nat} {l₀ rest:List Oper} {Q:Env→List Deferred→Ro→Own→Prop} {e:Env} {ds:List Deferred} {ρ:Ro} {σ:Own}
variable {d:Nat} {ty:TypeId} {pos:String} {af:Array Edge} {g:Option (Nat × Bool)} {x y:Operand} {v p:Value} {t:TypeId}
/-- A slice's part. -/
theorem slice_hi {α:Type} [Dat α] {xs:List α} {a:Option Addr} {len cap h:Nat} (hv:Val ρ (.slice a len cap) xs) (hh:h ≤ len):Val ρ (.slice (if cap = 0 then a else a.map (·.add (0 * Dat.k α))) (h - 0) (cap - 0)) (xs.take h):=by
  obtain ⟨a',len',cap',h1,h2,h3,h4,h5⟩:=Cs.1 hv
  cases h1
  refine Cs.2 ⟨a,h,cap,?_,by simp; omega,by omega,by omega,fun i x hx=>?_⟩
  · congr 1
    split
    · rfl
    · cases a with
      | none=>rfl
      | some ad=>simp [Addr.add]
  · rw [List.getElem?_take] at hx
    split at hx
    · exact h5 i x hx
    · cases hx
theorem y_slice_hi {P:Program} {α:Type} [Dat α] {xs:List α} {el:TypeId} {k:IntKind} {q:Int} (h:Nat) (hT:P.underlying t = some (.slice el)) (hE:GoTy P el α) (hx:Af e x = v) (hv:Val ρ v xs) (hy:Af e y = .int k q) (hq:q = (h:Int)) (hh:h ≤ xs.length) :
    ∃ w,Val ρ w (xs.take h)∧Yld P ρ e (.slice t x none (some y) none) ty w:=by
  obtain ⟨a,len,cap,h1,h2,h3,h4,h5⟩:=Cs.1 hv
  subst h1
  refine ⟨_,slice_hi hv (by omega),Mf (s:=Instr.sliceAt t (Af e x) none (some (Af e y)) none) (fun _ _ _ _=>rfl) fun ρ' σ _=>?_⟩
  rw [hx,hy,hq]
  show wpS P ρ' ((underlying t).bind _) σ _
  rw [Ad]
  refine Az hT ?_
  show wpS P ρ' ((underlying t).bind _) σ _
  rw [Ad]
  refine Az hT ?_
  simp only []
  show wpS P ρ' ((Instr.sliceBounds true len cap none (some (.int k h)) none).bind _) σ _
  have hb:Instr.sliceBounds true len cap none (some (.int k (h:Int))) none = pure (0,h,cap):=by
    show (do let m ← pure cap; let hh ← Instr.sliceBound (.int k (h:Int)) m _; let l ← pure 0; pure (l,hh,m):Sem _) = _
    have:Instr.sliceBound (.int k (h:Int)) cap .sliceAcap = pure h:=by
      show (if 0 ≤ (h:Int)∧(h:Int) ≤ cap then pure (h:Int).toNat else _) = _
      rw [if_pos (by omega)]; simp
    show (Instr.sliceBound (.int k (h:Int)) cap .sliceAcap).bind _ = _
    rw [this]; rfl
  rw [hb]
  show wpS P ρ' ((sizeOf el).bind _) σ _
  rw [Ad]
  exact Dw hE.info ⟨rfl,rfl⟩
end
end Go.Proofs.YtoefdnbaklajeaaDoor

namespace Go.Proofs.YtoefdnbaklajeaaDoor
open Go
theorem FNode.f_not:Fld FNode (Int) 2 FNode.not:=⟨fun ρ cs x=>((.snd (.snd Fld.self)):Fld ((Int) × (Int) × (Int)) (Int) 2 _).at_ ρ cs (x.test,(x.found,x.not))⟩
theorem Place.f_at_:Fld Place (Int) 0 Place.at_:=⟨fun ρ cs x=>(Fld.fst:Fld ((Int) × (Int)) (Int) 0 _).at_ ρ cs (x.at_,x.sets)⟩
theorem ty169:GoTy Tryd.prog 169 Place:=⟨⟨_,Tryd.underlying169,rfl⟩,⟨_,Ab Tryd.typeInfo169,rfl⟩⟩
theorem ty49:GoTy Tryd.prog 49 (List FNode):=⟨⟨_,Tryd.underlying49,rfl⟩,⟨_,Ab Tryd.typeInfo49,rfl⟩⟩
def zc169:List Value:=[.int .i64 0,.int .i64 0]
theorem zr169:Gc Tryd.prog 169 (.agg #[.int .i64 0,.int .i64 0]):=⟨_,Ab Tryd.typeInfo169,rfl⟩
def zc167:List Value:=[.nilFunc]
theorem zr167:Gc Tryd.prog 167 (.nilFunc):=⟨_,Ab Tryd.typeInfo167,rfl⟩
end Go.Proofs.YtoefdnbaklajeaaDoor

namespace Go.Proofs.YtoefdnbaklajeaaDoor
open Go
section
variable {C:Ctx} {b:FB} {n:Nat} {l₀ rest:List Oper} {Q:Env→List Deferred→Ro→Own→Prop} {Q':Hv} {e:Env} {ds:List Deferred} {ρ:Ro} {σ:Own}
variable {d:Nat} {ty:TypeId} {pos:String} {af:Array Edge} {g:Option (Nat × Bool)} {x y:Operand} {v p:Value} {t t':TypeId}
section
variable {P:Program}
theorem y_rem {k:IntKind} {p q z:Int} (hx:Af e x = .int k p) (hy:Af e y = .int k q) (h0:q ≠ 0) (hz:p.tmod q = z):Yld P ρ e (.binOp .rem t x y t') ty (.int k z) :=
  Ju hx hy Dh (by subst hz; simp only [binOp]; rw [if_neg (by simp)]; unfold Op.intDiv; rw [if_neg h0])
theorem y_quo {k:IntKind} {p q z:Int} (hx:Af e x = .int k p) (hy:Af e y = .int k q) (h0:q ≠ 0) (hz:k.wrap (p.tdiv q) = z):Yld P ρ e (.binOp .quo t x y t') ty (.int k z) :=
  Ju hx hy Dh (by subst hz; simp only [binOp]; rw [if_neg (by simp)]; unfold Op.intDiv; rw [if_neg h0])
end
section
variable {P:Program}
theorem y_eqs {p q:ByteArray} (hx:Af e x = .string p) (hy:Af e y = .string q):Yld P ρ e (.binOp .eql t x y t') ty (.bool (p.toList == q.toList)):=Ju hx hy eqGuard_str (by simp only [binOp]; rfl)
end
end
end Go.Proofs.YtoefdnbaklajeaaDoor

namespace Go.Proofs.YtoefdnbaklajeaaDoor
open Go
theorem wpS_eqBool {P:Program} {ρ:Ro} {σ:Own} {t:TypeId} {p q:Bool} (hT:P.underlying t = some .bool) {Q:Bool→Own→Prop} (h:Q (p == q) σ):wpS P ρ (Op.equal t (.bool p) (.bool q)) σ Q:=by
  show wpS P ρ ((underlying t).bind _) σ Q
  rw [Ad]
  exact Az hT h
theorem y_neqb {P:Program} {ρ:Ro} {e:Env} {ty t t':TypeId} {x y:Operand} {p q:Bool} (hT:P.underlying t = some .bool) (hx:Af e x = .bool p) (hy:Af e y = .bool q):Yld P ρ e (.binOp .neq t x y t') ty (.bool (p != q)) :=
  Mf (s:=(do eqGuard .neq t x y (Af e x) (Af e y); binOp .neq t (Af e x) (Af e y))) (fun _ _ _ _=>rfl) fun ρ' σ _=>by
    rw [hx,hy,eqGuard_bool]
    show wpS P ρ' ((Op.equal t (.bool p) (.bool q)).bind _) σ _
    rw [Ad]
    exact wpS_eqBool hT ⟨rfl,rfl⟩
theorem y_eqlb {P:Program} {ρ:Ro} {e:Env} {ty t t':TypeId} {x y:Operand} {p q:Bool} (hT:P.underlying t = some .bool) (hx:Af e x = .bool p) (hy:Af e y = .bool q):Yld P ρ e (.binOp .eql t x y t') ty (.bool (p == q)) :=
  Mf (s:=(do eqGuard .eql t x y (Af e x) (Af e y); binOp .eql t (Af e x) (Af e y))) (fun _ _ _ _=>rfl) fun ρ' σ _=>by
    rw [hx,hy,eqGuard_bool]
    show wpS P ρ' ((Op.equal t (.bool p) (.bool q)).bind _) σ _
    rw [Ad]
    exact wpS_eqBool hT ⟨rfl,rfl⟩
section
variable {mn:Bool} {X:Frame→List Frame→Ro→Own→Cy→Prop} {b:FB} {n:Nat} {e:Env} {ds:List Deferred} {ρ:Ro} {σ:Own} {K:Value→List Deferred→Ro→Own→Prop} {rd:Option Nat} {dd:Option Tmp}
variable {ty:TypeId} {pos:String} {af:Array Edge} {g:Option (Nat × Bool)} {x y:Operand} {v p:Value} {t t':TypeId}
end
end Go.Proofs.YtoefdnbaklajeaaDoor

namespace Go.Proofs.YtoefdnbaklajeaaDoor
open Go
section
variable {C:Ctx} {e:Env} {ds:List Deferred} {ρ:Ro} {σ:Own} {K:Value→List Deferred→Ro→Own→Prop} {rd:Option Nat} {dd:Option Tmp}
variable {ty:TypeId} {pos:String} {af:Array Edge} {g:Option (Nat × Bool)} {x y u:Operand} {v p:Value} {t t':TypeId} {P:Program}
end
section
variable {C:Ctx} {e:Env} {ds:List Deferred} {ρ:Ro} {σ:Own} {K:Value→List Deferred→Ro→Own→Prop} {rd:Option Nat} {dd:Option Tmp}
variable {ty:TypeId} {pos:String} {af:Array Edge} {g:Option (Nat × Bool)} {x y u:Operand} {v p:Value} {t t':TypeId} {P:Program}
end
theorem key169:Key2 Tryd.prog 169:=⟨⟨_,_,Tryd.underlying169,⟨by decide,rfl,Tryd.underlying3⟩,⟨by decide,rfl,Tryd.underlying110⟩⟩,by kernel_rfl⟩
end Go.Proofs.YtoefdnbaklajeaaDoor

namespace Go.Proofs.YtoefdnbaklajeaaDoor
open Go Go.WideShapes
theorem reach_lt {n:Nat} (h:n ≤ reachBytes):n < 2 ^ 60:=by unfold reachBytes at h; omega
theorem dec_int {t:TypeId} (ht:Tryd.prog.underlying t = some (.int .i64)) (hc:Tryd.prog.cellsOf t = 1):Apq Int t :=
  ⟨hc,fun H enc W fuel cs x h _=>by
    obtain ⟨n,h1,_,h3⟩:=DataW.trod_int ht h
    refine ⟨n,h1,?_⟩
    simp [Lit.wf,IntKind.min,IntKind.max,IntKind.signed,IntKind.bits] at h3
    exact ⟨by omega,by omega⟩⟩
theorem dec_bool {t:TypeId} (ht:Tryd.prog.underlying t = some .bool) (hc:Tryd.prog.cellsOf t = 1):Apq Bool t :=
  ⟨hc,fun H enc W fuel cs x h _=>by
    obtain ⟨b,h1,_⟩:=DataW.trod_bool ht h
    exact ⟨b,h1⟩⟩
theorem dec_str {t:TypeId} (ht:Tryd.prog.underlying t = some .string) (hc:Tryd.prog.cellsOf t = 1):Apq ByteArray t :=
  ⟨hc,fun H enc W fuel cs x h hw=>by
    obtain ⟨s,h1,h2,_⟩:=DataW.trod_string ht h
    refine ⟨s,h1,reach_lt ?_⟩
    have:=hw s.data.toList.length (by rw [h2]; simp [DataW.weights])
    simpa using this⟩
theorem list_of {α:Type} {P:Nat→α→Prop}:∀ n,(∀ i,i < n→∃ a,P i a)→∃ xs:List α,xs.length = n∧∀ i x,xs[i]? = some x→P i x
  | 0,_=>⟨[],rfl,fun i x h=>by cases h⟩
  | n + 1,h=>by
    obtain ⟨xs,h1,h2⟩:=list_of n fun i hi=>h i (by omega)
    obtain ⟨a,ha⟩:=h n (by omega)
    refine ⟨xs ++ [a],by simp [h1],fun i x hx=>?_⟩
    rcases Nat.lt_or_ge i n with hlt | hge
    · rw [List.getElem?_append_left (by omega)] at hx; exact h2 i x hx
    · have hi:i = n:=by
        have:=(List.getElem?_eq_some_iff.1 hx).1
        simp only [List.length_append,List.length_singleton] at this; omega
      subst hi
      rw [List.getElem?_append_right (by omega),h1,Nat.sub_self] at hx
      cases hx; exact ha
theorem add_0 {a:Addr}:a.add 0 = a:=by simp [Addr.add]
theorem add_none {b off i:Nat}:(⟨b,off,none⟩:Addr).add i = ⟨b,off + i,none⟩:=by
  unfold Addr.add; split
  · rename_i h; subst h; rfl
  · rfl
theorem row_cells {W:World} {a:Addr} {k:Nat} {cs:List Value} (hk:1 ≤ k) (h:W.cells? 0 a k = some cs):∃ b off c t fz rest,a = ⟨b,off,none⟩∧W.heap[b]? = some (.cells c t fz)∧c.toList.drop off = cs ++ rest∧cs.length = k:=by
  unfold World.cells? at h
  rw [if_pos (Nat.zero_le _)] at h
  have hl:=mapM_some_length h
  rw [List.length_range] at hl
  have hg:∀ j,j < k→W.cell? (a.add j) = cs[j]?:=fun j hj=>mapM_some_get h j j (by rw [List.getElem?_range hj])
  obtain ⟨b,off,spot⟩:=a
  have h0:=hg 0 hk
  rw [add_0] at h0
  obtain ⟨v,hv⟩:∃ v,cs[0]? = some v:=⟨_,List.getElem?_eq_getElem (by omega)⟩
  rw [hv] at h0
  unfold World.cell? at h0
  simp only at h0
  cases hb:W.heap[b]? with
  | none=>rw [hb] at h0; cases h0
  | some o =>
    cases o with
    | cells c t fz =>
      rw [hb] at h0
      simp only at h0
      cases spot with
      | some s=>simp at h0
      | none =>
        refine ⟨b,off,c,t,fz,(c.toList.drop off).drop k,rfl,hb,?_,hl⟩
        have e1:(c.toList.drop off).take k = cs:=by
          apply List.ext_getElem?
          intro j
          rw [List.getElem?_take]
          by_cases hj:j < k
          · rw [if_pos hj,← hg j hj,List.getElem?_drop,add_none]
            unfold World.cell?
            simp only [hb]
            simp
          · rw [if_neg hj,List.getElem?_eq_none (by omega)]
        rw [← e1,List.take_append_drop]
    | _=>rw [hb] at h0; cases h0
theorem weightsAll_mem {H:Type} {P:Program} {e:TypeId}:∀ {ds:List (DataW H)} {d:DataW H} {n:Nat},d ∈ ds→n ∈ d.weights P e→n ∈ DataW.weightsAll P e ds
  | [],_,_,h,_=>by cases h
  | d' :: ds,d,n,h,hn=>by
    rw [DataW.weightsAll,List.mem_append]
    rcases List.mem_cons.1 h with rfl | h
    · exact .inl hn
    · exact .inr (weightsAll_mem h hn)
theorem dec_list {α:Type} [Dat α] {t e:TypeId} (ht:Tryd.prog.underlying t = some (.slice e)) (hc:Tryd.prog.cellsOf t = 1) (hb:1 ≤ Tryd.prog.bytesOf e) (hk:1 ≤ Dat.k α) (he:Apq α e):Apq (List α) t :=
  ⟨hc,fun H enc W fuel cs x h hw=>by
    rcases DataW.trod_slice ht h with ⟨h1,_⟩ | ⟨a,len,cap,Av,rest,n,_,h2,h3,_,h5,_,h6,h7,_,_⟩
    · exact ⟨[],_,h1,none,0,0,rfl,rfl,by omega,Nat.le_refl _,fun i x hx=>by cases hx⟩
    · rw [h3] at hw
      simp only [DataW.weights,ht] at hw
      have hlen:len < 2 ^ 60:=by
        have:=hw _ (List.mem_cons_self ..)
        simp only [List.length_map] at this
        refine reach_lt (Nat.le_trans ?_ this)
        rw [h6]
        exact Nat.le_trans (Nat.le_trans (Nat.le_add_right _ _) (Nat.le_of_eq (Nat.mul_one _).symm)) (Nat.mul_le_mul_left _ hb)
      obtain ⟨xs,hx1,hx2⟩:=list_of (P:=fun i (y:α)=>∃ cs,W.cells? 0 (a.add (i * Tryd.prog.cellsOf e)) (Tryd.prog.cellsOf e) = some cs∧Dat.rep (roW W) cs y) len fun i hi=>by
        have h8:=h7 i hi
        obtain ⟨y,hy⟩:∃ y,Av[i]? = some y:=⟨_,List.getElem?_eq_getElem (by omega)⟩
        rw [hy,Option.bind_eq_some_iff] at h8
        obtain ⟨ci,hc1,hc2⟩:=h8
        obtain ⟨z,hz⟩:=he.2 H enc W n ci y hc2 fun m hm=>hw m (List.mem_cons_of_mem _ (List.mem_append_left _ (weightsAll_mem (List.mem_map_of_mem (List.mem_of_getElem? hy)) hm)))
        exact ⟨z,ci,hc1,hz⟩
      refine ⟨xs,_,h2,some a,len,cap,rfl,hx1,hlen,h5,fun i y hy=>?_⟩
      obtain ⟨b',off',rfl⟩:∃ b' off',a = ⟨b',off',none⟩:=by
        have hi:=(List.getElem?_eq_some_iff.1 hy).1
        obtain ⟨y0,hy0⟩:∃ y0,xs[0]? = some y0:=⟨_,List.getElem?_eq_getElem (by omega)⟩
        obtain ⟨ci,hc1,_⟩:=hx2 0 y0 hy0
        rw [he.1,Nat.zero_mul,add_0] at hc1
        obtain ⟨b,off,_,_,_,_,h8,_⟩:=row_cells hk hc1
        exact ⟨b,off,h8⟩
      obtain ⟨ci,hc1,hc2⟩:=hx2 i y hy
      rw [he.1,add_none] at hc1
      obtain ⟨b,off,c,t',fz,rs,h8,h9,h10,_⟩:=row_cells hk hc1
      simp only [Addr.mk.injEq,and_true] at h8
      obtain ⟨rfl,rfl⟩:=h8
      exact ⟨b',off',rfl,b',_,c,t',fz,ci,rs,rfl,Vs h9,hc2,h10⟩⟩
theorem cut_at (cs:List Value) (a k:Nat):cs.drop a = (cs.drop a).take k ++ cs.drop (a + k):=by rw [← List.drop_drop,List.take_append_drop]
theorem field_at {H:Type} {enc:TypeId × Value→H} {W:World} {n:Nat} {cs:List Value} {xs:List (DataW H × List MemPlace)} {fs:Array Field} {t:TypeId} (ht:Tryd.prog.underlying t = some (.struct fs)) (hl:xs.length = fs.size) (h:∀ (i:Nat) (f:Field),fs[i]? = some f→DataW.trod enc Tryd.prog W 0 (fun _=>true) true n f.type ((cs.drop f.offset).take (Tryd.prog.cellsOf f.type)) = xs[i]?)
    (hw:∀ m ∈ (DataW.agg (xs.map (·.1)):DataW H).weights Tryd.prog t,m ≤ reachBytes) {α:Type} [Dat α] {i ft off:Nat} {f:Field} (hf:fs[i]? = some f) (h1:f.type = ft) (h2:f.offset = off) (hd:Apq α ft):∃ a:α,Dat.rep (roW W) ((cs.drop off).take (Dat.k α)) a:=by
  subst h1 h2
  have hi:=(Array.getElem?_eq_some_iff.1 hf).1
  obtain ⟨y,hy⟩:∃ y,xs[i]? = some y:=⟨_,List.getElem?_eq_getElem (by omega)⟩
  have h3:=h i f hf
  rw [hy,hd.1] at h3
  refine hd.2 H enc W n _ y h3 fun m hm=>hw m ?_
  simp only [DataW.weights,ht]
  exact DataW.weights_mem_each (j:=i) (t:=f.type) (d:=y.1) (by simp [Array.getElem?_toList,hf]) (by simp [hy]) m hm
theorem dec108:Apq FTest 108:=⟨by kernel_rfl,fun H enc W fuel cs x h hw=>by
  obtain ⟨xs,n,_,rfl,hcl,hl,hf⟩:=DataW.trod_struct Tryd.underlying108 h
  rw [show Tryd.prog.cellsOf 108 = 3 from by kernel_rfl] at hcl
  obtain ⟨a0,r0⟩:=field_at (i:=0) Tryd.underlying108 hl hf hw rfl rfl (show _ = 0 from rfl) (dec_str Tryd.underlying9 (by kernel_rfl))
  obtain ⟨a1,r1⟩:=field_at (i:=1) Tryd.underlying108 hl hf hw rfl rfl (show _ = 1 from rfl) (dec_list Tryd.underlying46 (by kernel_rfl) (Nat.le_of_ble_eq_true (by kernel_rfl)) (by decide) (dec_int Tryd.underlying53 (by kernel_rfl)))
  obtain ⟨a2,r2⟩:=field_at (i:=2) Tryd.underlying108 hl hf hw rfl rfl (show _ = 2 from rfl) (dec_bool Tryd.underlying4 (by kernel_rfl))
  refine ⟨⟨a0,a1,a2⟩,?_⟩
  have e0:cs = cs.drop 0:=rfl
  rw [e0]
  exact ⟨(cs.drop 0).take 1,cs.drop 1,(cut_at cs 0 1).trans (by rfl),r0,⟨(cs.drop 1).take 1,cs.drop 2,(cut_at cs 1 1).trans (by rfl),r1,(show Dat.rep (roW W) (cs.drop 2) a2 from by (have:=r2; rw [List.take_of_length_le (by rw [List.length_drop,hcl]; decide)] at this; exact this))⟩⟩⟩
theorem dec40:Apq Lab 40:=⟨by kernel_rfl,fun H enc W fuel cs x h hw=>by
  obtain ⟨xs,n,_,rfl,hcl,hl,hf⟩:=DataW.trod_struct Tryd.underlying40 h
  rw [show Tryd.prog.cellsOf 40 = 3 from by kernel_rfl] at hcl
  obtain ⟨a0,r0⟩:=field_at (i:=0) Tryd.underlying40 hl hf hw rfl rfl (show _ = 0 from rfl) (dec_list Tryd.underlying22 (by kernel_rfl) (Nat.le_of_ble_eq_true (by kernel_rfl)) (by decide) (dec_str Tryd.underlying9 (by kernel_rfl)))
  obtain ⟨a1,r1⟩:=field_at (i:=1) Tryd.underlying40 hl hf hw rfl rfl (show _ = 1 from rfl) (dec_int Tryd.underlying3 (by kernel_rfl))
  obtain ⟨a2,r2⟩:=field_at (i:=2) Tryd.underlying40 hl hf hw rfl rfl (show _ = 2 from rfl) (dec_list Tryd.underlying38 (by kernel_rfl) (Nat.le_of_ble_eq_true (by kernel_rfl)) (by decide) dec108)
  refine ⟨⟨a0,a1,a2⟩,?_⟩
  have e0:cs = cs.drop 0:=rfl
  rw [e0]
  exact ⟨(cs.drop 0).take 1,cs.drop 1,(cut_at cs 0 1).trans (by rfl),r0,⟨(cs.drop 1).take 1,cs.drop 2,(cut_at cs 1 1).trans (by rfl),r1,(show Dat.rep (roW W) (cs.drop 2) a2 from by (have:=r2; rw [List.take_of_length_le (by rw [List.length_drop,hcl]; decide)] at this; exact this))⟩⟩⟩
end Go.Proofs.YtoefdnbaklajeaaDoor

namespace Go.Proofs.YtoefdnbaklajeaaDoor
open Go Go.WideShapes Go.ChangeShapes Go.RowKit Go.Conc
section
variable {H:Type} {enc:TypeId × Value→H} {W:World} {r:Reach} {base t:Nat} {v:Value} {d:DataW H} {p:List MemPlace}
end
theorem weights_at {H:Type} {P:Program} {ts:List TypeId} {ds:List (DataW H)} (h:(DataW.weightsEach P ts ds).all (· ≤ reachBytes) = true) {j:Nat} {t:TypeId} {d:DataW H} (ht:ts[j]? = some t) (hd:ds[j]? = some d):∀ n ∈ d.weights P t,n ≤ reachBytes:=fun n hn=>by
  have:=List.all_eq_true.1 h _ (DataW.weights_mem_each ht hd n hn)
  simpa using this
end Go.Proofs.YtoefdnbaklajeaaDoor

namespace Go.Proofs.YtoefdnbaklajeaaDoor
open Go
theorem okAll_t {s:ByteArray}:(List.range s.size).all (Alz s) = true↔∀ j,j < s.size→Alz s j = true:=by simp
theorem okAll_f {s:ByteArray} {j:Nat} (h:j < s.size) (h0:Alz s j = false):(List.range s.size).all (Alz s) = false:=by
  cases hh:(List.range s.size).all (Alz s) with
  | false=>rfl
  | true=>rw [okAll_t.1 hh j h] at h0; cases h0
end Go.Proofs.YtoefdnbaklajeaaDoor

namespace Go.Proofs.YtoefdnbaklajeaaDoor
open Go
set_option maxRecDepth 100000 in
theorem c_In {mn:Bool} {X:Frame→List Frame→Ro→Own→Cy→Prop} {ρ:Ro} {σ:Own} {n low high:Int} :CallsH (CX mn X) 79 #[(iV (n)),(iV (low)),(iV (high))] ρ σ (fun w ρ' σ'=>ρ' = ρ∧σ' = σ∧w = (.bool (inR n low high))):=by
 refine Bh (n:=15) (args:=[(iV (n)),(iV (low)),(iV (high))]) [6] Tryd.func79 rfl rfl rfl rfl fun Q hret hnor=>?_
 refine w_q rfl rfl fun K1 k1=>?_
 refine l_A (.bool (false)) rfl rfl ?_
 apply Ac
 apply k1
 refine w_q rfl rfl fun K2 k2=>?_
 refine l_M (iV (low)) rfl rfl ?_
 refine l_M (iV (n)) rfl rfl ?_
 refine Aa rfl (Tx (p:=low) (q:=n) rfl rfl) ?_
 refine l_M (.bool (decide (low ≤ n))) rfl rfl ?_
 refine Cn (decide (low ≤ n)) (fun b3=>?_) (fun b3=>?_)
 ·have q3:=of_decide_eq_true b3
  refine l_M (iV (n)) (Ar rfl rfl rfl b3) rfl ?_
  refine l_M (iV (high)) (Ar rfl rfl rfl b3) rfl ?_
  refine Aa (Ar rfl rfl rfl b3) (Tx (p:=n) (q:=high) rfl rfl) ?_
  refine Aa rfl (Bt rfl b3 (v:=(.bool (decide (n ≤ high)))) rfl) ?_
  refine l_A (.bool (decide (n ≤ high))) rfl rfl ?_
  apply Ac
  apply k2
  refine Aq ?_
  refine hret _ _ _ ?_
  refine ⟨rfl,rfl,Eq.trans (b:=(.bool (decide (n ≤ high)))) rfl ?_⟩
  simp only [inR,b3,Bool.true_and,Bool.false_and,Bool.and_true,Bool.and_false,Bool.true_or,Bool.false_or,Bool.or_true,Bool.or_false,Bool.not_true,Bool.not_false]
 have q3:=of_decide_eq_false b3
 refine Ap (Bl rfl rfl rfl b3) ?_
 refine Ap (Bl rfl rfl rfl b3) ?_
 refine Ap (Bl rfl rfl rfl b3) ?_
 refine Aa rfl (Bm rfl b3 (v:=(.bool (false))) rfl) ?_
 refine l_A (.bool (false)) rfl rfl ?_
 apply Ac
 apply k2
 refine Aq ?_
 refine hret _ _ _ ?_
 refine ⟨rfl,rfl,Eq.trans (b:=(.bool (false))) rfl ?_⟩
 simp only [inR,b3,Bool.true_and,Bool.false_and,Bool.and_true,Bool.and_false,Bool.true_or,Bool.false_or,Bool.or_true,Bool.or_false,Bool.not_true,Bool.not_false]
set_option maxRecDepth 100000 in
theorem c_Name {mn:Bool} {X:Frame→List Frame→Ro→Own→Cy→Prop} {ρ:Ro} {σ:Own} {s:ByteArray} :CallsH (CX mn X) 78 #[(.string (s))] ρ σ (fun w ρ' σ'=>ρ' = ρ∧σ' = σ∧w = (.bool (Hi s))):=by
 refine Bh (n:=46) (args:=[(.string (s))]) [2] Tryd.func78 rfl rfl rfl rfl fun Q hret hnor=>?_
 refine w_q rfl rfl fun K1 k1=>?_
 refine l_A (.bool (false)) rfl rfl ?_
 apply Ac
 apply k1
 refine Ai fun K2 k2=>?_
 refine w_q rfl rfl fun K3 k3=>?_
 refine l_M (.string (s)) rfl rfl ?_
 refine Aa rfl (Afb Tryd.underlying9 (s:=s) rfl) ?_
 refine Ae rfl (Bn (vs:=[(iV (((s.size:Nat):Int))),(iV (1)),(iV (14))]) (v:=(.bool (inR (((s.size:Nat):Int)) 1 14))) (c_In) Tryd.func79 rfl rfl ⟨rfl,rfl,rfl,trivial⟩ ?_)
 refine Aa rfl (Ix (k:=inR (((s.size:Nat):Int)) 1 14) rfl) ?_
 refine l_M (.bool (!(inR (((s.size:Nat):Int)) 1 14))) rfl rfl ?_
 refine Cn (!(inR (((s.size:Nat):Int)) 1 14)) (fun b4=>?_) (fun b4=>?_)
 ·have b5:=not_eq_t b4
  have q5:=Ui.1 b5
  refine Ap (Bl rfl rfl rfl b4) ?_
  refine Ap (Bl rfl rfl rfl b4) ?_
  refine Ap (Bl rfl rfl rfl b4) ?_
  refine Aa rfl (Bt rfl b4 (v:=(.bool (true))) rfl) ?_
  refine l_M (.bool (true)) rfl rfl ?_
  refine Ap (Bl rfl rfl rfl rfl) ?_
  refine Ap (Bl rfl rfl rfl rfl) ?_
  refine Ap (Bl rfl rfl rfl rfl) ?_
  refine Aa rfl (Bt rfl rfl (v:=(.bool (true))) rfl) ?_
  apply Ac
  apply k3
  refine Co rfl rfl ?_
  refine w_q rfl rfl fun K6 k6=>?_
  refine l_A (.bool (false)) rfl rfl ?_
  apply Ac
  apply k6
  refine Aq ?_
  refine hret _ _ _ ?_
  refine ⟨rfl,rfl,Eq.trans (b:=(.bool (false))) rfl ?_⟩
  simp only [Hi,Pu,b4,b5,Bool.true_and,Bool.false_and,Bool.and_true,Bool.and_false,Bool.true_or,Bool.false_or,Bool.or_true,Bool.or_false,Bool.not_true,Bool.not_false]
 have b7:=not_eq_f b4
 have q7:=Ge.1 b7
 refine l_M (.string (s)) (Ar rfl rfl rfl b4) rfl ?_
 obtain ⟨c8,hc8⟩:=Alh (s:=s) (i:=0) (by omega)
 refine Aa (Ar rfl rfl rfl b4) (Aaw 0 c8 Tryd.underlying9 rfl (q:=0) rfl rfl hc8) ?_
 refine Aa (Ar rfl rfl rfl b4) (Da (p:=((c8.toNat:Nat):Int)) (q:=97) rfl rfl) ?_
 refine Aa rfl (Bm rfl b4 (v:=(.bool (decide (((c8.toNat:Nat):Int) < 97)))) rfl) ?_
 refine l_M (.bool (decide (((c8.toNat:Nat):Int) < 97))) rfl rfl ?_
 refine Cn (decide (((c8.toNat:Nat):Int) < 97)) (fun b9=>?_) (fun b9=>?_)
 ·have q9:=of_decide_eq_true b9
  refine Ap (Bl rfl rfl rfl b9) ?_
  refine Ap (Bl rfl rfl rfl b9) ?_
  refine Ap (Bl rfl rfl rfl b9) ?_
  refine Aa rfl (Bt rfl b9 (v:=(.bool (true))) rfl) ?_
  apply Ac
  apply k3
  refine Co rfl rfl ?_
  refine w_q rfl rfl fun K10 k10=>?_
  refine l_A (.bool (false)) rfl rfl ?_
  apply Ac
  apply k10
  refine Aq ?_
  refine hret _ _ _ ?_
  refine ⟨rfl,rfl,Eq.trans (b:=(.bool (false))) rfl ?_⟩
  simp only [Hi,Pu,hc8,b4,b7,b9,Bool.true_and,Bool.false_and,Bool.and_true,Bool.and_false,Bool.true_or,Bool.false_or,Bool.or_true,Bool.or_false,Bool.not_true,Bool.not_false]
 have q9:=of_decide_eq_false b9
 refine l_M (.string (s)) (Ar rfl rfl rfl b9) rfl ?_
 refine Aa (Ar rfl rfl rfl b9) (Aaw 0 c8 Tryd.underlying9 rfl (q:=0) rfl rfl hc8) ?_
 refine Aa (Ar rfl rfl rfl b9) (Gk (p:=((c8.toNat:Nat):Int)) (q:=122) rfl rfl) ?_
 refine Aa rfl (Bm rfl b9 (v:=(.bool (decide (((c8.toNat:Nat):Int) > 122)))) rfl) ?_
 apply Ac
 apply k3
 refine As (t:=decide (((c8.toNat:Nat):Int) > 122)) rfl (fun b12=>?_) (fun b12=>?_)
 ·have q12:=of_decide_eq_true b12
  refine w_q rfl rfl fun K13 k13=>?_
  refine l_A (.bool (false)) rfl rfl ?_
  apply Ac
  apply k13
  refine Aq ?_
  refine hret _ _ _ ?_
  refine ⟨rfl,rfl,Eq.trans (b:=(.bool (false))) rfl ?_⟩
  simp only [Hi,Pu,hc8,b4,b7,b9,b12,Bool.true_and,Bool.false_and,Bool.and_true,Bool.and_false,Bool.true_or,Bool.false_or,Bool.or_true,Bool.or_false,Bool.not_true,Bool.not_false]
 have q12:=of_decide_eq_false b12
 refine Al ?_
 apply k2
 refine Ai fun K14 k14=>?_
 refine w_q rfl rfl fun K15 k15=>?_
 refine l_A (iV (0)) rfl rfl ?_
 apply Ac
 apply k15
 refine Ao ?_
 refine Cc (fun mm ee dd ρ' σ'=>∃ (i:Nat),(s.size - i) = mm∧[] = dd∧ρ = ρ'∧σ = σ'∧ee 0 = (.string (s))∧ee 3 = (iV ((i:Int)))∧(i ≤ s.size)∧(∀ j,j < i→Alz s j = true)∧True) (m:=_) ⟨0,rfl,rfl,rfl,rfl,rfl,rfl,(Nat.zero_le _),(fun j h=>absurd h (Nat.not_lt_zero _)),trivial⟩ ?_
 rintro m16 e16 _ _ _ ⟨i,rfl,rfl,rfl,rfl,h16_0,h16_3,p16_0,p16_1,_⟩
 refine Ai fun K17 k17=>?_
 refine w_q rfl rfl fun K18 k18=>?_
 refine Aa rfl (Ah (v:=(iV ((i:Int)))) h16_3) ?_
 refine Aa rfl (Ah (v:=(.string (s))) h16_0) ?_
 refine Aa rfl (Afb Tryd.underlying9 (s:=s) rfl) ?_
 refine Aa rfl (Da (p:=(i:Int)) (q:=((s.size:Nat):Int)) rfl rfl) ?_
 apply Ac
 apply k18
 refine As (t:=decide ((i:Int) < ((s.size:Nat):Int))) rfl (fun b19=>?_) (fun b19=>?_)
 ·have q19:=of_decide_eq_true b19
  refine Al ?_
  apply k17
  refine Ai fun K20 k20=>?_
  refine Ao ?_
  refine w_q rfl rfl fun K21 k21=>?_
  refine Aa rfl (Ah (v:=(.string (s))) h16_0) ?_
  refine Aa rfl (Ah (v:=(iV ((i:Int)))) h16_3) ?_
  obtain ⟨c22,hc22⟩:=Alh (s:=s) (i:=i) (by omega)
  refine Aa rfl (Aaw i c22 Tryd.underlying9 rfl (q:=(i:Int)) rfl rfl hc22) ?_
  refine l_A (.int .u8 (((c22.toNat:Nat):Int))) rfl rfl ?_
  apply Ac
  apply k21
  refine w_q rfl rfl fun K23 k23=>?_
  refine l_M (.int .u8 (((c22.toNat:Nat):Int))) rfl rfl ?_
  refine Aa rfl (Da (p:=((c22.toNat:Nat):Int)) (q:=97) rfl rfl) ?_
  refine l_M (.bool (decide (((c22.toNat:Nat):Int) < 97))) rfl rfl ?_
  refine Cn (decide (((c22.toNat:Nat):Int) < 97)) (fun b24=>?_) (fun b24=>?_)
  ·have q24:=of_decide_eq_true b24
   refine Ap (Bl rfl rfl rfl b24) ?_
   refine Ap (Bl rfl rfl rfl b24) ?_
   refine Aa rfl (Bt rfl b24 (v:=(.bool (true))) rfl) ?_
   refine l_M (.bool (true)) rfl rfl ?_
   refine l_M (.int .u8 (((c22.toNat:Nat):Int))) (Ar rfl rfl rfl rfl) rfl ?_
   refine Aa (Ar rfl rfl rfl rfl) (Da (p:=((c22.toNat:Nat):Int)) (q:=48) rfl rfl) ?_
   refine l_M (.bool (decide (((c22.toNat:Nat):Int) < 48))) (Ar rfl rfl rfl rfl) rfl ?_
   refine Cn (decide (((c22.toNat:Nat):Int) < 48)) (fun b25=>?_) (fun b25=>?_)
   ·have q25:=of_decide_eq_true b25
    refine Ap (Bl rfl rfl rfl b25) ?_
    refine Ap (Bl rfl rfl rfl b25) ?_
    refine Aa (Ar rfl rfl rfl rfl) (Bt rfl b25 (v:=(.bool (true))) rfl) ?_
    refine Aa rfl (Bt rfl rfl (v:=(.bool (true))) rfl) ?_
    refine l_M (.bool (true)) rfl rfl ?_
    refine l_M (.int .u8 (((c22.toNat:Nat):Int))) (Ar rfl rfl rfl rfl) rfl ?_
    refine Aa (Ar rfl rfl rfl rfl) (Dg (p:=((c22.toNat:Nat):Int)) (q:=45) rfl rfl) ?_
    refine Aa rfl (Bt rfl rfl (v:=(.bool (((c22.toNat:Nat):Int) != 45))) rfl) ?_
    apply Ac
    apply k23
    refine As (t:=((c22.toNat:Nat):Int) != 45) rfl (fun b26=>?_) (fun b26=>?_)
    ·have q26:=Mb b26
     refine w_q rfl rfl fun K27 k27=>?_
     refine l_A (.bool (false)) rfl rfl ?_
     apply Ac
     apply k27
     refine Aq ?_
     refine hret _ _ _ ?_
     refine ⟨rfl,rfl,Eq.trans (b:=(.bool (false))) rfl ?_⟩
     have hbad:Alz s i = false:=by simp only [Alz,hc22,Pk,b4,b7,b9,b12,b19,b24,b25,b26,Bool.true_and,Bool.false_and,Bool.and_true,Bool.and_false,Bool.true_or,Bool.false_or,Bool.or_true,Bool.or_false,Bool.not_true,Bool.not_false]
     have hall:=okAll_f (by omega) hbad
     simp only [Hi,hall,b4,b7,b9,b12,b19,b24,b25,b26,Bool.true_and,Bool.false_and,Bool.and_true,Bool.and_false,Bool.true_or,Bool.false_or,Bool.or_true,Bool.or_false,Bool.not_true,Bool.not_false]
    have q26:=Jh b26
    refine Al ?_
    apply k20
    refine Ag rfl rfl ?_
    refine Aa rfl (Ah (v:=(iV ((i:Int)))) h16_3) ?_
    refine Aa rfl (Br (p:=(i:Int)) (q:=1) rfl rfl (z:=(((i + 1):Nat):Int)) (Bo (by first | rfl | omega | (push_cast; rfl)) (by omega) (by omega))) ?_
    refine l_A (iV ((((i + 1):Nat):Int))) rfl rfl ?_
    apply Ac
    refine ⟨_,?_,((i + 1)),rfl,rfl,rfl,rfl,h16_0,rfl,(by omega),(Ef p16_1 (by simp only [Alz,hc22,Pk,b4,b7,b9,b12,b19,b24,b25,b26,Bool.true_and,Bool.false_and,Bool.and_true,Bool.and_false,Bool.true_or,Bool.false_or,Bool.or_true,Bool.or_false,Bool.not_true,Bool.not_false])),trivial⟩
    omega
   have q25:=of_decide_eq_false b25
   refine l_M (.int .u8 (((c22.toNat:Nat):Int))) (Ar rfl rfl rfl b25) rfl ?_
   refine Aa (Ar rfl rfl rfl b25) (Gk (p:=((c22.toNat:Nat):Int)) (q:=57) rfl rfl) ?_
   refine Aa (Ar rfl rfl rfl rfl) (Bm rfl b25 (v:=(.bool (decide (((c22.toNat:Nat):Int) > 57)))) rfl) ?_
   refine Aa rfl (Bt rfl rfl (v:=(.bool (decide (((c22.toNat:Nat):Int) > 57)))) rfl) ?_
   refine l_M (.bool (decide (((c22.toNat:Nat):Int) > 57))) rfl rfl ?_
   refine Cn (decide (((c22.toNat:Nat):Int) > 57)) (fun b28=>?_) (fun b28=>?_)
   ·have q28:=of_decide_eq_true b28
    refine l_M (.int .u8 (((c22.toNat:Nat):Int))) (Ar rfl rfl rfl b28) rfl ?_
    refine Aa (Ar rfl rfl rfl b28) (Dg (p:=((c22.toNat:Nat):Int)) (q:=45) rfl rfl) ?_
    refine Aa rfl (Bt rfl b28 (v:=(.bool (((c22.toNat:Nat):Int) != 45))) rfl) ?_
    apply Ac
    apply k23
    refine As (t:=((c22.toNat:Nat):Int) != 45) rfl (fun b29=>?_) (fun b29=>?_)
    ·have q29:=Mb b29
     refine w_q rfl rfl fun K30 k30=>?_
     refine l_A (.bool (false)) rfl rfl ?_
     apply Ac
     apply k30
     refine Aq ?_
     refine hret _ _ _ ?_
     refine ⟨rfl,rfl,Eq.trans (b:=(.bool (false))) rfl ?_⟩
     have hbad:Alz s i = false:=by simp only [Alz,hc22,Pk,b4,b7,b9,b12,b19,b24,b25,b28,b29,Bool.true_and,Bool.false_and,Bool.and_true,Bool.and_false,Bool.true_or,Bool.false_or,Bool.or_true,Bool.or_false,Bool.not_true,Bool.not_false]
     have hall:=okAll_f (by omega) hbad
     simp only [Hi,hall,b4,b7,b9,b12,b19,b24,b25,b28,b29,Bool.true_and,Bool.false_and,Bool.and_true,Bool.and_false,Bool.true_or,Bool.false_or,Bool.or_true,Bool.or_false,Bool.not_true,Bool.not_false]
    have q29:=Jh b29
    refine Al ?_
    apply k20
    refine Ag rfl rfl ?_
    refine Aa rfl (Ah (v:=(iV ((i:Int)))) h16_3) ?_
    refine Aa rfl (Br (p:=(i:Int)) (q:=1) rfl rfl (z:=(((i + 1):Nat):Int)) (Bo (by first | rfl | omega | (push_cast; rfl)) (by omega) (by omega))) ?_
    refine l_A (iV ((((i + 1):Nat):Int))) rfl rfl ?_
    apply Ac
    refine ⟨_,?_,((i + 1)),rfl,rfl,rfl,rfl,h16_0,rfl,(by omega),(Ef p16_1 (by simp only [Alz,hc22,Pk,b4,b7,b9,b12,b19,b24,b25,b28,b29,Bool.true_and,Bool.false_and,Bool.and_true,Bool.and_false,Bool.true_or,Bool.false_or,Bool.or_true,Bool.or_false,Bool.not_true,Bool.not_false])),trivial⟩
    omega
   have q28:=of_decide_eq_false b28
   refine Ap (Bl rfl rfl rfl b28) ?_
   refine Ap (Bl rfl rfl rfl b28) ?_
   refine Aa rfl (Bm rfl b28 (v:=(.bool (false))) rfl) ?_
   apply Ac
   apply k23
   refine Cg rfl rfl ?_
   refine Al ?_
   apply k20
   refine Ag rfl rfl ?_
   refine Aa rfl (Ah (v:=(iV ((i:Int)))) h16_3) ?_
   refine Aa rfl (Br (p:=(i:Int)) (q:=1) rfl rfl (z:=(((i + 1):Nat):Int)) (Bo (by first | rfl | omega | (push_cast; rfl)) (by omega) (by omega))) ?_
   refine l_A (iV ((((i + 1):Nat):Int))) rfl rfl ?_
   apply Ac
   refine ⟨_,?_,((i + 1)),rfl,rfl,rfl,rfl,h16_0,rfl,(by omega),(Ef p16_1 (by simp only [Alz,hc22,Pk,b4,b7,b9,b12,b19,b24,b25,b28,Bool.true_and,Bool.false_and,Bool.and_true,Bool.and_false,Bool.true_or,Bool.false_or,Bool.or_true,Bool.or_false,Bool.not_true,Bool.not_false])),trivial⟩
   omega
  have q24:=of_decide_eq_false b24
  refine l_M (.int .u8 (((c22.toNat:Nat):Int))) (Ar rfl rfl rfl b24) rfl ?_
  refine Aa (Ar rfl rfl rfl b24) (Gk (p:=((c22.toNat:Nat):Int)) (q:=122) rfl rfl) ?_
  refine Aa rfl (Bm rfl b24 (v:=(.bool (decide (((c22.toNat:Nat):Int) > 122)))) rfl) ?_
  refine l_M (.bool (decide (((c22.toNat:Nat):Int) > 122))) rfl rfl ?_
  refine Cn (decide (((c22.toNat:Nat):Int) > 122)) (fun b31=>?_) (fun b31=>?_)
  ·have q31:=of_decide_eq_true b31
   refine l_M (.int .u8 (((c22.toNat:Nat):Int))) (Ar rfl rfl rfl b31) rfl ?_
   refine Aa (Ar rfl rfl rfl b31) (Da (p:=((c22.toNat:Nat):Int)) (q:=48) rfl rfl) ?_
   refine l_M (.bool (decide (((c22.toNat:Nat):Int) < 48))) (Ar rfl rfl rfl b31) rfl ?_
   refine Cn (decide (((c22.toNat:Nat):Int) < 48)) (fun b32=>?_) (fun b32=>?_)
   ·have q32:=of_decide_eq_true b32
    refine Ap (Bl rfl rfl rfl b32) ?_
    refine Ap (Bl rfl rfl rfl b32) ?_
    refine Aa (Ar rfl rfl rfl b31) (Bt rfl b32 (v:=(.bool (true))) rfl) ?_
    refine Aa rfl (Bt rfl b31 (v:=(.bool (true))) rfl) ?_
    refine l_M (.bool (true)) rfl rfl ?_
    refine l_M (.int .u8 (((c22.toNat:Nat):Int))) (Ar rfl rfl rfl rfl) rfl ?_
    refine Aa (Ar rfl rfl rfl rfl) (Dg (p:=((c22.toNat:Nat):Int)) (q:=45) rfl rfl) ?_
    refine Aa rfl (Bt rfl rfl (v:=(.bool (((c22.toNat:Nat):Int) != 45))) rfl) ?_
    apply Ac
    apply k23
    refine As (t:=((c22.toNat:Nat):Int) != 45) rfl (fun b33=>?_) (fun b33=>?_)
    ·have q33:=Mb b33
     refine w_q rfl rfl fun K34 k34=>?_
     refine l_A (.bool (false)) rfl rfl ?_
     apply Ac
     apply k34
     refine Aq ?_
     refine hret _ _ _ ?_
     refine ⟨rfl,rfl,Eq.trans (b:=(.bool (false))) rfl ?_⟩
     have hbad:Alz s i = false:=by simp only [Alz,hc22,Pk,b4,b7,b9,b12,b19,b24,b31,b32,b33,Bool.true_and,Bool.false_and,Bool.and_true,Bool.and_false,Bool.true_or,Bool.false_or,Bool.or_true,Bool.or_false,Bool.not_true,Bool.not_false]
     have hall:=okAll_f (by omega) hbad
     simp only [Hi,hall,b4,b7,b9,b12,b19,b24,b31,b32,b33,Bool.true_and,Bool.false_and,Bool.and_true,Bool.and_false,Bool.true_or,Bool.false_or,Bool.or_true,Bool.or_false,Bool.not_true,Bool.not_false]
    have q33:=Jh b33
    refine Al ?_
    apply k20
    refine Ag rfl rfl ?_
    refine Aa rfl (Ah (v:=(iV ((i:Int)))) h16_3) ?_
    refine Aa rfl (Br (p:=(i:Int)) (q:=1) rfl rfl (z:=(((i + 1):Nat):Int)) (Bo (by first | rfl | omega | (push_cast; rfl)) (by omega) (by omega))) ?_
    refine l_A (iV ((((i + 1):Nat):Int))) rfl rfl ?_
    apply Ac
    refine ⟨_,?_,((i + 1)),rfl,rfl,rfl,rfl,h16_0,rfl,(by omega),(Ef p16_1 (by simp only [Alz,hc22,Pk,b4,b7,b9,b12,b19,b24,b31,b32,b33,Bool.true_and,Bool.false_and,Bool.and_true,Bool.and_false,Bool.true_or,Bool.false_or,Bool.or_true,Bool.or_false,Bool.not_true,Bool.not_false])),trivial⟩
    omega
   have q32:=of_decide_eq_false b32
   refine l_M (.int .u8 (((c22.toNat:Nat):Int))) (Ar rfl rfl rfl b32) rfl ?_
   refine Aa (Ar rfl rfl rfl b32) (Gk (p:=((c22.toNat:Nat):Int)) (q:=57) rfl rfl) ?_
   refine Aa (Ar rfl rfl rfl b31) (Bm rfl b32 (v:=(.bool (decide (((c22.toNat:Nat):Int) > 57)))) rfl) ?_
   refine Aa rfl (Bt rfl b31 (v:=(.bool (decide (((c22.toNat:Nat):Int) > 57)))) rfl) ?_
   refine l_M (.bool (decide (((c22.toNat:Nat):Int) > 57))) rfl rfl ?_
   refine Cn (decide (((c22.toNat:Nat):Int) > 57)) (fun b35=>?_) (fun b35=>?_)
   ·have q35:=of_decide_eq_true b35
    refine l_M (.int .u8 (((c22.toNat:Nat):Int))) (Ar rfl rfl rfl b35) rfl ?_
    refine Aa (Ar rfl rfl rfl b35) (Dg (p:=((c22.toNat:Nat):Int)) (q:=45) rfl rfl) ?_
    refine Aa rfl (Bt rfl b35 (v:=(.bool (((c22.toNat:Nat):Int) != 45))) rfl) ?_
    apply Ac
    apply k23
    refine As (t:=((c22.toNat:Nat):Int) != 45) rfl (fun b36=>?_) (fun b36=>?_)
    ·have q36:=Mb b36
     refine w_q rfl rfl fun K37 k37=>?_
     refine l_A (.bool (false)) rfl rfl ?_
     apply Ac
     apply k37
     refine Aq ?_
     refine hret _ _ _ ?_
     refine ⟨rfl,rfl,Eq.trans (b:=(.bool (false))) rfl ?_⟩
     have hbad:Alz s i = false:=by simp only [Alz,hc22,Pk,b4,b7,b9,b12,b19,b24,b31,b32,b35,b36,Bool.true_and,Bool.false_and,Bool.and_true,Bool.and_false,Bool.true_or,Bool.false_or,Bool.or_true,Bool.or_false,Bool.not_true,Bool.not_false]
     have hall:=okAll_f (by omega) hbad
     simp only [Hi,hall,b4,b7,b9,b12,b19,b24,b31,b32,b35,b36,Bool.true_and,Bool.false_and,Bool.and_true,Bool.and_false,Bool.true_or,Bool.false_or,Bool.or_true,Bool.or_false,Bool.not_true,Bool.not_false]
    have q36:=Jh b36
    refine Al ?_
    apply k20
    refine Ag rfl rfl ?_
    refine Aa rfl (Ah (v:=(iV ((i:Int)))) h16_3) ?_
    refine Aa rfl (Br (p:=(i:Int)) (q:=1) rfl rfl (z:=(((i + 1):Nat):Int)) (Bo (by first | rfl | omega | (push_cast; rfl)) (by omega) (by omega))) ?_
    refine l_A (iV ((((i + 1):Nat):Int))) rfl rfl ?_
    apply Ac
    refine ⟨_,?_,((i + 1)),rfl,rfl,rfl,rfl,h16_0,rfl,(by omega),(Ef p16_1 (by simp only [Alz,hc22,Pk,b4,b7,b9,b12,b19,b24,b31,b32,b35,b36,Bool.true_and,Bool.false_and,Bool.and_true,Bool.and_false,Bool.true_or,Bool.false_or,Bool.or_true,Bool.or_false,Bool.not_true,Bool.not_false])),trivial⟩
    omega
   have q35:=of_decide_eq_false b35
   refine Ap (Bl rfl rfl rfl b35) ?_
   refine Ap (Bl rfl rfl rfl b35) ?_
   refine Aa rfl (Bm rfl b35 (v:=(.bool (false))) rfl) ?_
   apply Ac
   apply k23
   refine Cg rfl rfl ?_
   refine Al ?_
   apply k20
   refine Ag rfl rfl ?_
   refine Aa rfl (Ah (v:=(iV ((i:Int)))) h16_3) ?_
   refine Aa rfl (Br (p:=(i:Int)) (q:=1) rfl rfl (z:=(((i + 1):Nat):Int)) (Bo (by first | rfl | omega | (push_cast; rfl)) (by omega) (by omega))) ?_
   refine l_A (iV ((((i + 1):Nat):Int))) rfl rfl ?_
   apply Ac
   refine ⟨_,?_,((i + 1)),rfl,rfl,rfl,rfl,h16_0,rfl,(by omega),(Ef p16_1 (by simp only [Alz,hc22,Pk,b4,b7,b9,b12,b19,b24,b31,b32,b35,Bool.true_and,Bool.false_and,Bool.and_true,Bool.and_false,Bool.true_or,Bool.false_or,Bool.or_true,Bool.or_false,Bool.not_true,Bool.not_false])),trivial⟩
   omega
  have q31:=of_decide_eq_false b31
  refine Ap (Bl rfl rfl rfl b31) ?_
  refine Ap (Bl rfl rfl rfl b31) ?_
  refine Ap (Bl rfl rfl rfl b31) ?_
  refine Ap (Jf rfl rfl rfl) ?_
  refine Ap (Jf rfl rfl rfl) ?_
  refine Ap (Bl rfl rfl rfl b31) ?_
  refine Aa rfl (Bm rfl b31 (v:=(.bool (false))) rfl) ?_
  refine l_M (.bool (false)) rfl rfl ?_
  refine Ap (Bl rfl rfl rfl rfl) ?_
  refine Ap (Bl rfl rfl rfl rfl) ?_
  refine Aa rfl (Bm rfl rfl (v:=(.bool (false))) rfl) ?_
  apply Ac
  apply k23
  refine Cg rfl rfl ?_
  refine Al ?_
  apply k20
  refine Ag rfl rfl ?_
  refine Aa rfl (Ah (v:=(iV ((i:Int)))) h16_3) ?_
  refine Aa rfl (Br (p:=(i:Int)) (q:=1) rfl rfl (z:=(((i + 1):Nat):Int)) (Bo (by first | rfl | omega | (push_cast; rfl)) (by omega) (by omega))) ?_
  refine l_A (iV ((((i + 1):Nat):Int))) rfl rfl ?_
  apply Ac
  refine ⟨_,?_,((i + 1)),rfl,rfl,rfl,rfl,h16_0,rfl,(by omega),(Ef p16_1 (by simp only [Alz,hc22,Pk,b4,b7,b9,b12,b19,b24,b31,Bool.true_and,Bool.false_and,Bool.and_true,Bool.and_false,Bool.true_or,Bool.false_or,Bool.or_true,Bool.or_false,Bool.not_true,Bool.not_false])),trivial⟩
  omega
 have q19:=of_decide_eq_false b19
 refine Bx ?_
 apply k14
 refine w_q rfl rfl fun K38 k38=>?_
 refine l_A (.bool (true)) rfl rfl ?_
 apply Ac
 apply k38
 refine Aq ?_
 refine hret _ _ _ ?_
 refine ⟨rfl,rfl,Eq.trans (b:=(.bool (true))) rfl ?_⟩
 have hall:=okAll_t.2 fun j hj=>p16_1 j (by omega)
 simp only [Hi,Pu,hall,hc8,b4,b7,b9,b12,b19,Bool.true_and,Bool.false_and,Bool.and_true,Bool.and_false,Bool.true_or,Bool.false_or,Bool.or_true,Bool.or_false,Bool.not_true,Bool.not_false]
set_option maxRecDepth 100000 in
theorem c_Find {mn:Bool} {X:Frame→List Frame→Ro→Own→Cy→Prop} {ρ:Ro} {σ:Own} {l:List ByteArray} {vl:Value} {s:ByteArray} (rl:Val ρ vl l):CallsH (CX mn X) 114 #[vl,(.string (s))] ρ σ (fun w ρ' σ'=>ρ' = ρ∧σ' = σ∧w = (iV (Ajt l s))):=by
 refine Bh (n:=19) (args:=[vl,(.string (s))]) [4] Tryd.func114 rfl rfl rfl rfl fun Q hret hnor=>?_
 refine w_q rfl rfl fun K1 k1=>?_
 refine l_A (iV (0)) rfl rfl ?_
 apply Ac
 apply k1
 refine Ai fun K2 k2=>?_
 refine w_q rfl rfl fun K3 k3=>?_
 refine l_A (iV (0)) rfl rfl ?_
 apply Ac
 apply k3
 refine Ao ?_
 refine Cc (fun mm ee dd ρ' σ'=>∃ (i:Nat),(l.length - i) = mm∧[] = dd∧ρ = ρ'∧σ = σ'∧ee 0 = vl∧ee 1 = (.string (s))∧ee 5 = (iV ((i:Int)))∧(i ≤ l.length)∧(∀ j,j < i→Xp l s j = false)∧True) (m:=_) ⟨0,rfl,rfl,rfl,rfl,rfl,rfl,rfl,(Nat.zero_le _),(fun j h=>absurd h (Nat.not_lt_zero _)),trivial⟩ ?_
 rintro m4 e4 _ _ _ ⟨i,rfl,rfl,rfl,rfl,h4_0,h4_1,h4_5,p4_0,p4_1,_⟩
 refine Ai fun K5 k5=>?_
 refine w_q rfl rfl fun K6 k6=>?_
 refine Aa rfl (Ah (v:=(iV ((i:Int)))) h4_5) ?_
 refine Aa rfl (Ah (v:=vl) h4_0) ?_
 have g7:=Val.len rl
 refine Aa rfl (Ce (el:=9) Tryd.underlying22 rfl rl) ?_
 refine Aa rfl (Da (p:=(i:Int)) (q:=((l.length:Nat):Int)) rfl rfl) ?_
 apply Ac
 apply k6
 refine As (t:=decide ((i:Int) < ((l.length:Nat):Int))) rfl (fun b8=>?_) (fun b8=>?_)
 ·have q8:=of_decide_eq_true b8
  refine Al ?_
  apply k5
  refine Ai fun K9 k9=>?_
  refine Ao ?_
  refine w_q rfl rfl fun K10 k10=>?_
  refine Aa rfl (Ah (v:=vl) h4_0) ?_
  refine Aa rfl (Ah (v:=(iV ((i:Int)))) h4_5) ?_
  obtain ⟨a12,ha12⟩:=Ed (xs:=l) (i:=i) (by omega)
  refine Ak rfl (Ci i Tryd.underlying22 ty9 rfl rl (q:=(i:Int)) rfl rfl ha12) fun v11 r11=>?_
  have g13:=At.slen r11
  refine Aa rfl (Oz ty9 rfl r11) ?_
  refine Aa rfl (Ah (v:=(.string (s))) h4_1) ?_
  refine Aa rfl (y_eqs (p:=a12) (q:=s) rfl rfl) ?_
  apply Ac
  apply k10
  refine As (t:=(a12).toList == (s).toList) rfl (fun b14=>?_) (fun b14=>?_)
  ·have q14:=Jo b14
   refine w_q rfl rfl fun K15 k15=>?_
   refine Aa rfl (Ah (v:=(iV ((i:Int)))) h4_5) ?_
   refine l_A (iV ((i:Int))) rfl rfl ?_
   apply Ac
   apply k15
   refine Aq ?_
   refine hret _ _ _ ?_
   refine ⟨rfl,rfl,Eq.trans (b:=(iV ((i:Int)))) rfl ?_⟩
   have hi:=Fg (n:=l.length) p4_1 (by omega) (show Xp l s i = true by simp only [Xp,ha12,b8,b14])
   simp only [Ajt,hi]
  have q14:=La b14
  refine Al ?_
  apply k9
  refine Ag rfl rfl ?_
  refine Aa rfl (Ah (v:=(iV ((i:Int)))) h4_5) ?_
  refine Aa rfl (Br (p:=(i:Int)) (q:=1) rfl rfl (z:=(((i + 1):Nat):Int)) (Bo (by first | rfl | omega | (push_cast; rfl)) (by omega) (by omega))) ?_
  refine l_A (iV ((((i + 1):Nat):Int))) rfl rfl ?_
  apply Ac
  refine ⟨_,?_,((i + 1)),rfl,rfl,rfl,rfl,h4_0,h4_1,rfl,(by omega),(Ef p4_1 (by simp only [Xp,ha12,b8,b14])),trivial⟩
  omega
 have q8:=of_decide_eq_false b8
 refine Bx ?_
 apply k2
 refine w_q rfl rfl fun K16 k16=>?_
 refine l_A (iV ((-1))) rfl rfl ?_
 apply Ac
 apply k16
 refine Aq ?_
 refine hret _ _ _ ?_
 refine ⟨rfl,rfl,Eq.trans (b:=(iV ((-1)))) rfl ?_⟩
 have hn:=Ep (n:=l.length) fun j hj=>p4_1 j (by omega)
 simp only [Ajt,hn]
set_option maxRecDepth 100000 in
theorem c_names {mn:Bool} {X:Frame→List Frame→Ro→Own→Cy→Prop} {ρ:Ro} {σ:Own} {l:List ByteArray} {vl:Value} {most:Int} (rl:Val ρ vl l):CallsH (CX mn X) 77 #[vl,(iV (most))] ρ σ (fun w ρ' σ'=>ρ' = ρ∧σ' = σ∧w = (iV (Dd l most))):=by
 refine Bh (n:=31) (args:=[vl,(iV (most))]) [4] Tryd.func77 rfl rfl rfl rfl fun Q hret hnor=>?_
 refine w_q rfl rfl fun K1 k1=>?_
 refine l_A (iV (0)) rfl rfl ?_
 apply Ac
 apply k1
 refine Ai fun K2 k2=>?_
 refine w_q rfl rfl fun K3 k3=>?_
 refine l_M vl rfl rfl ?_
 have g4:=Val.len rl
 refine Aa rfl (Ce (el:=9) Tryd.underlying22 rfl rl) ?_
 refine l_M (iV (most)) rfl rfl ?_
 refine Aa rfl (Gk (p:=((l.length:Nat):Int)) (q:=most) rfl rfl) ?_
 apply Ac
 apply k3
 refine As (t:=decide (((l.length:Nat):Int) > most)) rfl (fun b5=>?_) (fun b5=>?_)
 ·have q5:=of_decide_eq_true b5
  refine w_q rfl rfl fun K6 k6=>?_
  refine l_A (iV (2)) rfl rfl ?_
  apply Ac
  apply k6
  refine Aq ?_
  refine hret _ _ _ ?_
  refine ⟨rfl,rfl,Eq.trans (b:=(iV (2))) rfl ?_⟩
  rw [Dd,if_pos (by omega)]
 have q5:=of_decide_eq_false b5
 refine Al ?_
 apply k2
 refine Ai fun K7 k7=>?_
 refine w_q rfl rfl fun K8 k8=>?_
 refine l_A (iV (0)) rfl rfl ?_
 apply Ac
 apply k8
 refine Ao ?_
 refine Cc (fun mm ee dd ρ' σ'=>∃ (i:Nat),(l.length - i) = mm∧[] = dd∧ρ = ρ'∧σ = σ'∧ee 0 = vl∧ee 5 = (iV ((i:Int)))∧(i ≤ l.length)∧(∀ j,j < i→Nh l j = 0)∧True) (m:=_) ⟨0,rfl,rfl,rfl,rfl,rfl,rfl,(Nat.zero_le _),(fun j h=>absurd h (Nat.not_lt_zero _)),trivial⟩ ?_
 rintro m9 e9 _ _ _ ⟨i,rfl,rfl,rfl,rfl,h9_0,h9_5,p9_0,p9_1,_⟩
 refine Ai fun K10 k10=>?_
 refine w_q rfl rfl fun K11 k11=>?_
 refine Aa rfl (Ah (v:=(iV ((i:Int)))) h9_5) ?_
 refine Aa rfl (Ah (v:=vl) h9_0) ?_
 have g12:=Val.len rl
 refine Aa rfl (Ce (el:=9) Tryd.underlying22 rfl rl) ?_
 refine Aa rfl (Da (p:=(i:Int)) (q:=((l.length:Nat):Int)) rfl rfl) ?_
 apply Ac
 apply k11
 refine As (t:=decide ((i:Int) < ((l.length:Nat):Int))) rfl (fun b13=>?_) (fun b13=>?_)
 ·have q13:=of_decide_eq_true b13
  refine Al ?_
  apply k10
  refine Ai fun K14 k14=>?_
  refine Ao ?_
  refine Ai fun K15 k15=>?_
  refine w_q rfl rfl fun K16 k16=>?_
  refine Aa rfl (Ah (v:=vl) h9_0) ?_
  refine Aa rfl (Ah (v:=(iV ((i:Int)))) h9_5) ?_
  obtain ⟨a18,ha18⟩:=Ed (xs:=l) (i:=i) (by omega)
  refine Ak rfl (Ci i Tryd.underlying22 ty9 rfl rl (q:=(i:Int)) rfl rfl ha18) fun v17 r17=>?_
  have g19:=At.slen r17
  refine Aa rfl (Oz ty9 rfl r17) ?_
  refine Ae rfl (Bn (vs:=[(.string (a18))]) (v:=(.bool (Hi a18))) (c_Name) Tryd.func78 rfl rfl ⟨rfl,trivial⟩ ?_)
  refine Aa rfl (Ix (k:=Hi a18) rfl) ?_
  apply Ac
  apply k16
  refine As (t:=!(Hi a18)) rfl (fun b20=>?_) (fun b20=>?_)
  ·have b21:=not_eq_t b20
   refine w_q rfl rfl fun K22 k22=>?_
   refine l_A (iV (4)) rfl rfl ?_
   apply Ac
   apply k22
   refine Aq ?_
   refine hret _ _ _ ?_
   refine ⟨rfl,rfl,Eq.trans (b:=(iV (4))) rfl ?_⟩
   have hf:Nh l i = 4:=by simp only [Nh,ha18,b5,b13,b20,b21]; first | rfl | omega | (simp; done) | (simp; omega)
   rw [Dd,if_neg (by omega),Db p9_1 (by omega) hf (by omega)]
  have b23:=not_eq_f b20
  refine Al ?_
  apply k15
  refine Ai fun K24 k24=>?_
  refine Dc [0,1,2,3,4,5,6,7,8] (by kernel_rfl) rfl rfl ?_
  refine Be (i:=0) Aov rfl (by kernel_rfl) rfl Ary rfl (Ah (v:=vl) h9_0) ?_
  refine Be (i:=1) Aof rfl (by kernel_rfl) rfl Ary rfl (Ah (v:=(iV ((i:Int)))) h9_5) ?_
  refine Cd (i:=2) Apd rfl (by kernel_rfl) rfl Ary rfl (y_slice_hi i Tryd.underlying22 ty9 rfl rl (q:=(i:Int)) rfl rfl (by omega)) fun v25 r25=>?_
  refine Be (i:=3) Anf rfl (by kernel_rfl) rfl Ary rfl (Ah (v:=vl) h9_0) ?_
  refine Bg (i:=4) Aon rfl (by kernel_rfl) rfl Ary rfl (Ah (v:=(iV ((i:Int)))) h9_5) ?_
  refine Hl (i:=5) Aob rfl (by kernel_rfl) rfl Ary rfl (Ci i Tryd.underlying22 ty9 rfl rl (q:=(i:Int)) rfl rfl ha18) fun v26 r26=>?_
  have g27:=At.slen r26
  refine Bg (i:=6) Aow rfl (by kernel_rfl) rfl Ary rfl (Oz ty9 rfl r26) ?_
  refine Dj (i:=7) Anz rfl (by kernel_rfl) rfl rfl (Bn (vs:=[v25,(.string (a18))]) (v:=(iV (Ajt ((l.take i)) a18))) (c_Find r25) Tryd.func114 rfl rfl ⟨rfl,rfl,trivial⟩ ⟨Ary,?_⟩)
  refine Bg (i:=8) Anb rfl (by kernel_rfl) rfl Ary rfl (Uv (p:=Ajt ((l.take i)) a18) (q:=0) rfl rfl) ?_
  refine Ec rfl ?_
  apply k24
  refine As (t:=decide (Ajt ((l.take i)) a18 ≥ 0)) rfl (fun b28=>?_) (fun b28=>?_)
  ·have q28:=of_decide_eq_true b28
   refine w_q rfl rfl fun K29 k29=>?_
   refine l_A (iV (5)) rfl rfl ?_
   apply Ac
   apply k29
   refine Aq ?_
   refine hret _ _ _ ?_
   refine ⟨rfl,rfl,Eq.trans (b:=(iV (5))) rfl ?_⟩
   have hf:Nh l i = 5:=by simp only [Nh,ha18,b5,b13,b20,b23,b28]; first | rfl | omega | (simp; done) | (simp; omega)
   rw [Dd,if_neg (by omega),Db p9_1 (by omega) hf (by omega)]
  have q28:=of_decide_eq_false b28
  refine Al ?_
  apply k14
  refine Ag rfl rfl ?_
  refine Aa rfl (Ah (v:=(iV ((i:Int)))) h9_5) ?_
  refine Aa rfl (Br (p:=(i:Int)) (q:=1) rfl rfl (z:=(((i + 1):Nat):Int)) (Bo (by first | rfl | omega | (push_cast; rfl)) (by omega) (by omega))) ?_
  refine l_A (iV ((((i + 1):Nat):Int))) rfl rfl ?_
  apply Ac
  refine ⟨_,?_,((i + 1)),rfl,rfl,rfl,rfl,h9_0,rfl,(by omega),(Ef p9_1 (by simp only [Nh,ha18,b5,b13,b20,b23,b28]; first | rfl | omega | (simp; done) | (simp; omega))),trivial⟩
  omega
 have q13:=of_decide_eq_false b13
 refine Bx ?_
 apply k7
 refine w_q rfl rfl fun K30 k30=>?_
 refine l_A (iV (0)) rfl rfl ?_
 apply Ac
 apply k30
 refine Aq ?_
 refine hret _ _ _ ?_
 refine ⟨rfl,rfl,Eq.trans (b:=(iV (0))) rfl ?_⟩
 rw [Dd,if_neg (by omega),Fb fun j hj=>p9_1 j (by omega)]
end Go.Proofs.YtoefdnbaklajeaaDoor

namespace Go.Proofs.YtoefdnbaklajeaaDoor
open Go
theorem testIs_none {l:Lab} {i:Nat} {s:ByteArray} (h:∀ j,j < i→Rm l s j = false):(Cl i (Rm l s)).isSome = false:=Fs.2 h
theorem testIs_some {l:Lab} {i k:Nat} {s:ByteArray} (hk:k < i) (h:Rm l s k = true):(Cl i (Rm l s)).isSome = true:=by
  cases hh:(Cl i (Rm l s)).isSome with
  | true=>rfl
  | false=>rw [Fs.1 hh k hk] at h; cases h
end Go.Proofs.YtoefdnbaklajeaaDoor

namespace Go.Proofs.YtoefdnbaklajeaaDoor
open Go
set_option maxRecDepth 100000 in
theorem c_refCheckLab {mn:Bool} {X:Frame→List Frame→Ro→Own→Cy→Prop} {ρ:Ro} {σ:Own} {l:Lab} {vl:Value} (rl:Val ρ vl l):CallsH (CX mn X) 39 #[vl] ρ σ (fun w ρ' σ'=>ρ' = ρ∧σ' = σ∧w = (iV (Gj l))):=by
 refine Bh (n:=83) (args:=[vl]) [2] Tryd.func39 rfl rfl rfl rfl fun Q hret hnor=>?_
 refine w_q rfl rfl fun K1 k1=>?_
 refine Ae rfl (Eb (v:=vl) rfl fun k2=>?_)
 refine Bb (a:=l) rl fun ρ2 l2 r2=>?_
 replace rl:=Asa l2 rl
 refine l_A (iV (0)) rfl rfl ?_
 apply Ac
 apply k1
 refine Ai fun K3 k3=>?_
 refine w_q rfl rfl fun K4 k4=>?_
 refine Ak rfl (Ay Lab.f_kinds Tryd.underlying40 rfl rfl Hu (by decide) rfl r2) fun v5 r5=>?_
 refine Ak rfl (Ax Hu rfl r5) fun v6 r6=>?_
 refine Ae rfl (Bn (vs:=[v6,(iV (4))]) (v:=(iV (Dd l.kinds 4))) (c_names r6) Tryd.func77 rfl rfl ⟨rfl,rfl,trivial⟩ ?_)
 refine l_A (iV (Dd l.kinds 4)) rfl rfl ?_
 apply Ac
 apply k4
 refine w_q rfl rfl fun K7 k7=>?_
 refine l_M (iV (Dd l.kinds 4)) rfl rfl ?_
 refine Aa rfl (Dg (p:=Dd l.kinds 4) (q:=0) rfl rfl) ?_
 apply Ac
 apply k7
 refine As (t:=Dd l.kinds 4 != 0) rfl (fun b8=>?_) (fun b8=>?_)
 ·have q8:=Mb b8
  refine w_q rfl rfl fun K9 k9=>?_
  refine l_M (iV (Dd l.kinds 4)) rfl rfl ?_
  refine l_A (iV (Dd l.kinds 4)) rfl rfl ?_
  apply Ac
  apply k9
  refine Aj (Arw l2) ?_
  refine Aq ?_
  refine hret _ _ _ ?_
  refine ⟨rfl,rfl,Eq.trans (b:=(iV (Dd l.kinds 4))) rfl ?_⟩
  rw [Gj,Rx q8]
 have q8:=Jh b8
 refine Al ?_
 apply k3
 refine Ai fun K10 k10=>?_
 refine w_q rfl rfl fun K11 k11=>?_
 refine Ak rfl (Ay Lab.f_most Tryd.underlying40 rfl rfl ty3 (by decide) rfl r2) fun v12 r12=>?_
 have ⟨g13a,g13b⟩:=At.rng r12
 refine Aa rfl (Bc ty3 rfl r12) ?_
 refine Ak rfl (Ay Lab.f_kinds Tryd.underlying40 rfl rfl Hu (by decide) rfl r2) fun v14 r14=>?_
 refine Ak rfl (Ax Hu rfl r14) fun v15 r15=>?_
 have g16:=Val.len r15
 refine Aa rfl (Ce (el:=9) Tryd.underlying22 rfl r15) ?_
 refine Ae rfl (Bn (vs:=[(iV (l.most)),(iV (0)),(iV (((l.kinds.length:Nat):Int)))]) (v:=(.bool (inR l.most 0 (((l.kinds.length:Nat):Int))))) (c_In) Tryd.func79 rfl rfl ⟨rfl,rfl,rfl,trivial⟩ ?_)
 refine Aa rfl (Ix (k:=inR l.most 0 (((l.kinds.length:Nat):Int))) rfl) ?_
 apply Ac
 apply k11
 refine As (t:=!(inR l.most 0 (((l.kinds.length:Nat):Int)))) rfl (fun b17=>?_) (fun b17=>?_)
 ·have b18:=not_eq_t b17
  have q18:=Ui.1 b18
  refine w_q rfl rfl fun K19 k19=>?_
  refine l_A (iV (1)) rfl rfl ?_
  apply Ac
  apply k19
  refine Aj (Arw l2) ?_
  refine Aq ?_
  refine hret _ _ _ ?_
  refine ⟨rfl,rfl,Eq.trans (b:=(iV (1))) rfl ?_⟩
  have hi:inR l.most 0 (l.kinds.length:Int) = false:=Ui.2 q18
  rw [Gj,Gt q8,Jw,hi]; rfl
 have b20:=not_eq_f b17
 have q20:=Ge.1 b20
 refine Al ?_
 apply k10
 refine Ai fun K21 k21=>?_
 refine w_q rfl rfl fun K22 k22=>?_
 refine Ak rfl (Ay Lab.f_tests Tryd.underlying40 rfl rfl Vd (by decide) rfl r2) fun v23 r23=>?_
 refine Ak rfl (Ax Vd rfl r23) fun v24 r24=>?_
 have g25:=Val.len r24
 refine Aa rfl (Ce (el:=108) Tryd.underlying38 rfl r24) ?_
 refine Aa rfl (Gk (p:=((l.tests.length:Nat):Int)) (q:=5) rfl rfl) ?_
 apply Ac
 apply k22
 refine As (t:=decide (((l.tests.length:Nat):Int) > 5)) rfl (fun b26=>?_) (fun b26=>?_)
 ·have q26:=of_decide_eq_true b26
  refine w_q rfl rfl fun K27 k27=>?_
  refine l_A (iV (2)) rfl rfl ?_
  apply Ac
  apply k27
  refine Aj (Arw l2) ?_
  refine Aq ?_
  refine hret _ _ _ ?_
  refine ⟨rfl,rfl,Eq.trans (b:=(iV (2))) rfl ?_⟩
  have hi:inR l.most 0 (l.kinds.length:Int) = true:=Ge.2 q20
  rw [Gj,Gt q8,Jw,hi,if_pos rfl,if_pos (by omega)]
 have q26:=of_decide_eq_false b26
 refine Al ?_
 apply k21
 refine Ai fun K28 k28=>?_
 refine w_q rfl rfl fun K29 k29=>?_
 refine l_A (iV (0)) rfl rfl ?_
 apply Ac
 apply k29
 refine Ao ?_
 refine Cc (fun mm ee dd ρ' σ'=>∃ (i:Nat),(l.tests.length - i) = mm∧[] = dd∧ρ2 = ρ'∧σ = σ'∧ee 1 = (.pointer (some ⟨k2,0,none⟩))∧ee 4 = (iV ((i:Int)))∧(i ≤ l.tests.length)∧(∀ j,j < i→Gz l j = 0)∧True) (m:=_) ⟨0,rfl,rfl,rfl,rfl,rfl,rfl,(Nat.zero_le _),(fun j h=>absurd h (Nat.not_lt_zero _)),trivial⟩ ?_
 rintro m30 e30 _ _ _ ⟨i,rfl,rfl,rfl,rfl,h30_1,h30_4,p30_0,p30_1,_⟩
 refine Ai fun K31 k31=>?_
 refine w_q rfl rfl fun K32 k32=>?_
 refine Aa rfl (Ah (v:=(iV ((i:Int)))) h30_4) ?_
 refine Ak rfl (Ay Lab.f_tests Tryd.underlying40 rfl rfl Vd (by decide) h30_1 r2) fun v33 r33=>?_
 refine Ak rfl (Ax Vd rfl r33) fun v34 r34=>?_
 have g35:=Val.len r34
 refine Aa rfl (Ce (el:=108) Tryd.underlying38 rfl r34) ?_
 refine Aa rfl (Da (p:=(i:Int)) (q:=((l.tests.length:Nat):Int)) rfl rfl) ?_
 apply Ac
 apply k32
 refine As (t:=decide ((i:Int) < ((l.tests.length:Nat):Int))) rfl (fun b36=>?_) (fun b36=>?_)
 ·have q36:=of_decide_eq_true b36
  refine Al ?_
  apply k31
  refine Ai fun K37 k37=>?_
  refine Ao ?_
  refine w_q rfl rfl fun K38 k38=>?_
  refine Ak rfl (Ay Lab.f_tests Tryd.underlying40 rfl rfl Vd (by decide) h30_1 r2) fun v39 r39=>?_
  refine Ak rfl (Ax Vd rfl r39) fun v40 r40=>?_
  refine Aa rfl (Ah (v:=(iV ((i:Int)))) h30_4) ?_
  obtain ⟨a42,ha42⟩:=Ed (xs:=l.tests) (i:=i) (by omega)
  refine Ak rfl (Ci i Tryd.underlying38 Td rfl r40 (q:=(i:Int)) rfl rfl ha42) fun v41 r41=>?_
  refine Ak rfl (Ax Td rfl r41) fun v43 r43=>?_
  refine Ae rfl (Ct Vm fun k44=>?_)
  refine Cx rfl (Du (v:=v43) (a:=a42) (c:=Aaf) Td rfl rfl r43 rfl ?_)
  refine Bb (a:=a42) r43 fun ρ45 l45 r45=>?_
  replace r2:=Arv l45 r2
  replace r39:=Arv l45 r39
  replace r40:=Asa l45 r40
  replace r41:=Arv l45 r41
  replace r43:=Asa l45 r43
  apply Ac
  apply k38
  refine Ai fun K46 k46=>?_
  refine w_q rfl rfl fun K47 k47=>?_
  refine Ak rfl (Ay FTest.f_name Tryd.underlying108 rfl rfl ty9 (by decide) rfl r45) fun v48 r48=>?_
  have g49:=At.slen r48
  refine Aa rfl (Oz ty9 rfl r48) ?_
  refine Ae rfl (Bn (vs:=[(.string (a42.name))]) (v:=(.bool (Hi a42.name))) (c_Name) Tryd.func78 rfl rfl ⟨rfl,trivial⟩ ?_)
  refine Aa rfl (Ix (k:=Hi a42.name) rfl) ?_
  apply Ac
  apply k47
  refine As (t:=!(Hi a42.name)) rfl (fun b50=>?_) (fun b50=>?_)
  ·have b51:=not_eq_t b50
   refine w_q rfl rfl fun K52 k52=>?_
   refine l_A (iV (4)) rfl rfl ?_
   apply Ac
   apply k52
   refine Aj (Arw (Arz l2 l45)) ?_
   refine Aq ?_
   refine hret _ _ _ ?_
   refine ⟨rfl,rfl,Eq.trans (b:=(iV (4))) rfl ?_⟩
   have hi:inR l.most 0 (l.kinds.length:Int) = true:=Ge.2 q20
   have hf:Gz l i = 4:=by
    simp [Gz,ha42,b8,b17,b20,b26,b36,b50,b51]
   rw [Gj,Gt q8,Jw,hi,if_pos rfl,if_neg (by omega),Db p30_1 (by omega) hf (by omega)]
  have b53:=not_eq_f b50
  refine Al ?_
  apply k46
  refine Ai fun K54 k54=>?_
  refine w_q rfl rfl fun K55 k55=>?_
  refine l_A (iV (0)) rfl rfl ?_
  apply Ac
  apply k55
  refine Ao ?_
  refine Cc (fun mm ee dd ρ' σ'=>∃ (k:Nat),(i - k) = mm∧[] = dd∧ρ45 = ρ'∧σ = σ'∧ee 1 = (.pointer (some ⟨k2,0,none⟩))∧ee 4 = (iV ((i:Int)))∧ee 5 = (.pointer (some ⟨k44,0,none⟩))∧ee 6 = (iV ((k:Int)))∧(k ≤ i)∧(∀ j,j < k→Rm l a42.name j = false)∧True) (m:=_) ⟨0,rfl,rfl,rfl,rfl,h30_1,h30_4,rfl,rfl,(Nat.zero_le _),(fun j h=>absurd h (Nat.not_lt_zero _)),trivial⟩ ?_
  rintro m56 e56 _ _ _ ⟨k,rfl,rfl,rfl,rfl,h56_1,h56_4,h56_5,h56_6,p56_0,p56_1,_⟩
  refine Ai fun K57 k57=>?_
  refine w_q rfl rfl fun K58 k58=>?_
  refine Aa rfl (Ah (v:=(iV ((k:Int)))) h56_6) ?_
  refine Aa rfl (Ah (v:=(iV ((i:Int)))) h56_4) ?_
  refine Aa rfl (Da (p:=(k:Int)) (q:=(i:Int)) rfl rfl) ?_
  apply Ac
  apply k58
  refine As (t:=decide ((k:Int) < (i:Int))) rfl (fun b59=>?_) (fun b59=>?_)
  ·have q59:=of_decide_eq_true b59
   refine Al ?_
   apply k57
   refine Ai fun K60 k60=>?_
   refine Ao ?_
   refine Ai fun K61 k61=>?_
   refine Dc [0,1,2,3,4,5,6,7,8] (by kernel_rfl) rfl rfl ?_
   refine Cd (i:=0) Aov rfl (by kernel_rfl) rfl Ary rfl (Ay Lab.f_tests Tryd.underlying40 rfl rfl Vd (by decide) h56_1 r2) fun v62 r62=>?_
   refine Cd (i:=1) Aof rfl (by kernel_rfl) rfl Ary rfl (Ax Vd rfl r62) fun v63 r63=>?_
   refine Be (i:=2) Apd rfl (by kernel_rfl) rfl Ary rfl (Ah (v:=(iV ((k:Int)))) h56_6) ?_
   obtain ⟨a65,ha65⟩:=Ed (xs:=l.tests) (i:=k) (by omega)
   refine Cd (i:=3) Anf rfl (by kernel_rfl) rfl Ary rfl (Ci k Tryd.underlying38 Td rfl r63 (q:=(k:Int)) rfl rfl ha65) fun v64 r64=>?_
   refine Cd (i:=4) Aon rfl (by kernel_rfl) rfl Ary rfl (Ay FTest.f_name Tryd.underlying108 rfl rfl ty9 (by decide) rfl r64) fun v66 r66=>?_
   have g67:=At.slen r66
   refine Be (i:=5) Aob rfl (by kernel_rfl) rfl Ary rfl (Oz ty9 rfl r66) ?_
   refine Hl (i:=6) Aow rfl (by kernel_rfl) rfl Ary rfl (Ay FTest.f_name Tryd.underlying108 rfl rfl ty9 (by decide) h56_5 r45) fun v68 r68=>?_
   have g69:=At.slen r68
   refine Bg (i:=7) Anz rfl (by kernel_rfl) rfl Ary rfl (Oz ty9 rfl r68) ?_
   refine Bg (i:=8) Anb rfl (by kernel_rfl) rfl Ary rfl (y_eqs (p:=a65.name) (q:=a42.name) rfl rfl) ?_
   refine Ec rfl ?_
   apply k61
   refine As (t:=(a65.name).toList == (a42.name).toList) rfl (fun b70=>?_) (fun b70=>?_)
   ·have q70:=Jo b70
    refine w_q rfl rfl fun K71 k71=>?_
    refine l_A (iV (5)) rfl rfl ?_
    apply Ac
    apply k71
    refine Aj (Arw (Arz l2 l45)) ?_
    refine Aq ?_
    refine hret _ _ _ ?_
    refine ⟨rfl,rfl,Eq.trans (b:=(iV (5))) rfl ?_⟩
    have hi:inR l.most 0 (l.kinds.length:Int) = true:=Ge.2 q20
    have hf:Gz l i = 5:=by
     have htw:=testIs_some (show k < i by omega) (show Rm l a42.name k = true by simp [Rm,ha65,b8,b17,b20,b26,b36,b50,b53,b59,b70,q8,q20,q26,q36,q59,q70])
     simp [Gz,ha42,htw,b8,b17,b20,b26,b36,b50,b53,b59,b70]
    rw [Gj,Gt q8,Jw,hi,if_pos rfl,if_neg (by omega),Db p30_1 (by omega) hf (by omega)]
   have q70:=La b70
   refine Al ?_
   apply k60
   refine Ag rfl rfl ?_
   refine Aa rfl (Ah (v:=(iV ((k:Int)))) h56_6) ?_
   refine Aa rfl (Br (p:=(k:Int)) (q:=1) rfl rfl (z:=(((k + 1):Nat):Int)) (Bo (by first | rfl | omega | (push_cast; rfl)) (by omega) (by omega))) ?_
   refine l_A (iV ((((k + 1):Nat):Int))) rfl rfl ?_
   apply Ac
   refine ⟨_,?_,((k + 1)),rfl,rfl,rfl,rfl,h56_1,h56_4,h56_5,rfl,(by omega),(Ef p56_1 (by simp [Rm,ha65,b8,b17,b20,b26,b36,b50,b53,b59,b70,q8,q20,q26,q36,q59,q70])),trivial⟩
   omega
  have q59:=of_decide_eq_false b59
  refine Bx ?_
  apply k54
  refine Ai fun K72 k72=>?_
  refine w_q rfl rfl fun K73 k73=>?_
  refine Ak rfl (Ay FTest.f_sees Tryd.underlying108 rfl rfl Aex (by decide) h56_5 r45) fun v74 r74=>?_
  refine Ak rfl (Ax Aex rfl r74) fun v75 r75=>?_
  have g76:=Val.len r75
  refine Aa rfl (Ce (el:=53) Tryd.underlying46 rfl r75) ?_
  refine Ak rfl (Ay Lab.f_kinds Tryd.underlying40 rfl rfl Hu (by decide) h56_1 r2) fun v77 r77=>?_
  refine Ak rfl (Ax Hu rfl r77) fun v78 r78=>?_
  have g79:=Val.len r78
  refine Aa rfl (Ce (el:=9) Tryd.underlying22 rfl r78) ?_
  refine Aa rfl (Dg (p:=((a42.sees.length:Nat):Int)) (q:=((l.kinds.length:Nat):Int)) rfl rfl) ?_
  apply Ac
  apply k73
  refine As (t:=((a42.sees.length:Nat):Int) != ((l.kinds.length:Nat):Int)) rfl (fun b80=>?_) (fun b80=>?_)
  ·have q80:=Mb b80
   refine w_q rfl rfl fun K81 k81=>?_
   refine l_A (iV (2)) rfl rfl ?_
   apply Ac
   apply k81
   refine Aj (Arw (Arz l2 l45)) ?_
   refine Aq ?_
   refine hret _ _ _ ?_
   refine ⟨rfl,rfl,Eq.trans (b:=(iV (2))) rfl ?_⟩
   have hi:inR l.most 0 (l.kinds.length:Int) = true:=Ge.2 q20
   have hf:Gz l i = 2:=by
    have htw:=(testIs_none fun j hj=>p56_1 j (by omega):(Cl i (Rm l a42.name)).isSome = false)
    simp only [Gz,ha42,htw,b8,b17,b20,b26,b36,b50,b53,b59,b80,if_true,Bool.false_eq_true,if_false]
    rw [if_neg (by omega)]
   rw [Gj,Gt q8,Jw,hi,if_pos rfl,if_neg (by omega),Db p30_1 (by omega) hf (by omega)]
  have q80:=Jh b80
  refine Al ?_
  apply k72
  refine w_q rfl rfl fun K82 k82=>?_
  refine l_A (iV (0)) rfl rfl ?_
  apply Ac
  apply k82
  refine Ao ?_
  refine Cc (fun mm ee dd ρ' σ'=>∃ (q:Nat),(a42.sees.length - q) = mm∧[] = dd∧ρ45 = ρ'∧σ = σ'∧ee 1 = (.pointer (some ⟨k2,0,none⟩))∧ee 4 = (iV ((i:Int)))∧ee 5 = (.pointer (some ⟨k44,0,none⟩))∧ee 7 = (iV ((q:Int)))∧(q ≤ a42.sees.length)∧(∀ j,j < q→Nb a42 j = 0)∧True) (m:=_) ⟨0,rfl,rfl,rfl,rfl,h56_1,h56_4,h56_5,rfl,(Nat.zero_le _),(fun j h=>absurd h (Nat.not_lt_zero _)),trivial⟩ ?_
  rintro m83 e83 _ _ _ ⟨q,rfl,rfl,rfl,rfl,h83_1,h83_4,h83_5,h83_7,p83_0,p83_1,_⟩
  refine Ai fun K84 k84=>?_
  refine w_q rfl rfl fun K85 k85=>?_
  refine Aa rfl (Ah (v:=(iV ((q:Int)))) h83_7) ?_
  refine Ak rfl (Ay FTest.f_sees Tryd.underlying108 rfl rfl Aex (by decide) h83_5 r45) fun v86 r86=>?_
  refine Ak rfl (Ax Aex rfl r86) fun v87 r87=>?_
  have g88:=Val.len r87
  refine Aa rfl (Ce (el:=53) Tryd.underlying46 rfl r87) ?_
  refine Aa rfl (Da (p:=(q:Int)) (q:=((a42.sees.length:Nat):Int)) rfl rfl) ?_
  apply Ac
  apply k85
  refine As (t:=decide ((q:Int) < ((a42.sees.length:Nat):Int))) rfl (fun b89=>?_) (fun b89=>?_)
  ·have q89:=of_decide_eq_true b89
   refine Al ?_
   apply k84
   refine Ai fun K90 k90=>?_
   refine Ao ?_
   refine w_q rfl rfl fun K91 k91=>?_
   refine Ak rfl (Ay FTest.f_sees Tryd.underlying108 rfl rfl Aex (by decide) h83_5 r45) fun v92 r92=>?_
   refine Ak rfl (Ax Aex rfl r92) fun v93 r93=>?_
   refine Aa rfl (Ah (v:=(iV ((q:Int)))) h83_7) ?_
   obtain ⟨a95,ha95⟩:=Ed (xs:=a42.sees) (i:=q) (by omega)
   refine Ak rfl (Ci q Tryd.underlying46 Ov rfl r93 (q:=(q:Int)) rfl rfl ha95) fun v94 r94=>?_
   have ⟨g96a,g96b⟩:=At.rng r94
   refine Aa rfl (Bc Ov rfl r94) ?_
   refine Aa rfl (Da (p:=a95) (q:=0) rfl rfl) ?_
   refine l_M (.bool (decide (a95 < 0))) rfl rfl ?_
   refine Cn (decide (a95 < 0)) (fun b97=>?_) (fun b97=>?_)
   ·have q97:=of_decide_eq_true b97
    refine Ap (Bl rfl rfl rfl b97) ?_
    refine Ap (Bl rfl rfl rfl b97) ?_
    refine Ap (Bl rfl rfl rfl b97) ?_
    refine Ap (Bl rfl rfl rfl b97) ?_
    refine Ap (Bl rfl rfl rfl b97) ?_
    refine Ap (Bl rfl rfl rfl b97) ?_
    refine Aa rfl (Bt rfl b97 (v:=(.bool (true))) rfl) ?_
    apply Ac
    apply k91
    refine Co rfl rfl ?_
    refine w_q rfl rfl fun K98 k98=>?_
    refine l_A (iV (1)) rfl rfl ?_
    apply Ac
    apply k98
    refine Aj (Arw (Arz l2 l45)) ?_
    refine Aq ?_
    refine hret _ _ _ ?_
    refine ⟨rfl,rfl,Eq.trans (b:=(iV (1))) rfl ?_⟩
    have hi:inR l.most 0 (l.kinds.length:Int) = true:=Ge.2 q20
    have hf:Gz l i = 1:=by
     have htw:=(testIs_none fun j hj=>p56_1 j (by omega):(Cl i (Rm l a42.name)).isSome = false)
     have hq:Nb a42 q = 1:=by simp only [Nb,ha95,b8,b17,b20,b26,b36,b50,b53,b59,b80,b89,b97,Bool.true_and,Bool.false_and,Bool.and_true,Bool.and_false,Bool.true_or,Bool.false_or,Bool.or_true,Bool.or_false,Bool.not_true,Bool.not_false]; rfl
     simp only [Gz,ha42,htw,b8,b17,b20,b26,b36,b50,b53,b59,b80,b89,b97,if_true,Bool.false_eq_true,if_false]
     rw [if_pos (by omega),Db p83_1 (by omega) hq (by omega)]
    rw [Gj,Gt q8,Jw,hi,if_pos rfl,if_neg (by omega),Db p30_1 (by omega) hf (by omega)]
   have q97:=of_decide_eq_false b97
   refine Ak (Ar rfl rfl rfl b97) (Ay FTest.f_sees Tryd.underlying108 rfl rfl Aex (by decide) h83_5 r45) fun v99 r99=>?_
   refine Ak (Ar rfl rfl rfl b97) (Ax Aex rfl r99) fun v100 r100=>?_
   refine Aa (Ar rfl rfl rfl b97) (Ah (v:=(iV ((q:Int)))) h83_7) ?_
   refine Ak (Ar rfl rfl rfl b97) (Ci q Tryd.underlying46 Ov rfl r100 (q:=(q:Int)) rfl rfl ha95) fun v101 r101=>?_
   have ⟨g102a,g102b⟩:=At.rng r101
   refine Aa (Ar rfl rfl rfl b97) (Bc Ov rfl r101) ?_
   refine Aa (Ar rfl rfl rfl b97) (Gk (p:=a95) (q:=2) rfl rfl) ?_
   refine Aa rfl (Bm rfl b97 (v:=(.bool (decide (a95 > 2)))) rfl) ?_
   apply Ac
   apply k91
   refine As (t:=decide (a95 > 2)) rfl (fun b103=>?_) (fun b103=>?_)
   ·have q103:=of_decide_eq_true b103
    refine w_q rfl rfl fun K104 k104=>?_
    refine l_A (iV (1)) rfl rfl ?_
    apply Ac
    apply k104
    refine Aj (Arw (Arz l2 l45)) ?_
    refine Aq ?_
    refine hret _ _ _ ?_
    refine ⟨rfl,rfl,Eq.trans (b:=(iV (1))) rfl ?_⟩
    have hi:inR l.most 0 (l.kinds.length:Int) = true:=Ge.2 q20
    have hf:Gz l i = 1:=by
     have htw:=(testIs_none fun j hj=>p56_1 j (by omega):(Cl i (Rm l a42.name)).isSome = false)
     have hq:Nb a42 q = 1:=by simp only [Nb,ha95,b8,b17,b20,b26,b36,b50,b53,b59,b80,b89,b97,b103,Bool.true_and,Bool.false_and,Bool.and_true,Bool.and_false,Bool.true_or,Bool.false_or,Bool.or_true,Bool.or_false,Bool.not_true,Bool.not_false]; rfl
     simp only [Gz,ha42,htw,b8,b17,b20,b26,b36,b50,b53,b59,b80,b89,b97,b103,if_true,Bool.false_eq_true,if_false]
     rw [if_pos (by omega),Db p83_1 (by omega) hq (by omega)]
    rw [Gj,Gt q8,Jw,hi,if_pos rfl,if_neg (by omega),Db p30_1 (by omega) hf (by omega)]
   have q103:=of_decide_eq_false b103
   refine Al ?_
   apply k90
   refine Ag rfl rfl ?_
   refine Aa rfl (Ah (v:=(iV ((q:Int)))) h83_7) ?_
   refine Aa rfl (Br (p:=(q:Int)) (q:=1) rfl rfl (z:=(((q + 1):Nat):Int)) (Bo (by first | rfl | omega | (push_cast; rfl)) (by omega) (by omega))) ?_
   refine l_A (iV ((((q + 1):Nat):Int))) rfl rfl ?_
   apply Ac
   refine ⟨_,?_,((q + 1)),rfl,rfl,rfl,rfl,h83_1,h83_4,h83_5,rfl,(by omega),(Ef p83_1 (by simp only [Nb,ha95,b8,b17,b20,b26,b36,b50,b53,b59,b80,b89,b97,b103,Bool.true_and,Bool.false_and,Bool.and_true,Bool.and_false,Bool.true_or,Bool.false_or,Bool.or_true,Bool.or_false,Bool.not_true,Bool.not_false]; rfl)),trivial⟩
   omega
  have q89:=of_decide_eq_false b89
  refine Bx ?_
  apply k37
  refine Ag rfl rfl ?_
  refine Aa rfl (Ah (v:=(iV ((i:Int)))) h83_4) ?_
  refine Aa rfl (Br (p:=(i:Int)) (q:=1) rfl rfl (z:=(((i + 1):Nat):Int)) (Bo (by first | rfl | omega | (push_cast; rfl)) (by omega) (by omega))) ?_
  refine l_A (iV ((((i + 1):Nat):Int))) rfl rfl ?_
  refine Bj (Arw l45) ?_
  apply Ac
  refine ⟨_,?_,((i + 1)),rfl,rfl,rfl,rfl,h83_1,rfl,(by omega),(Ef p30_1 (by
 have htw:=(testIs_none fun j hj=>p56_1 j (by omega):(Cl i (Rm l a42.name)).isSome = false)
 simp only [Gz,ha42,htw,b8,b17,b20,b26,b36,b50,b53,b59,b80,b89,if_true,Bool.false_eq_true,if_false]
 rw [if_pos (by omega),Fb fun j hj=>p83_1 j (by omega)])),trivial⟩
  omega
 have q36:=of_decide_eq_false b36
 refine Bx ?_
 apply k28
 refine w_q rfl rfl fun K105 k105=>?_
 refine l_A (iV (0)) rfl rfl ?_
 apply Ac
 apply k105
 refine Aj (Arw l2) ?_
 refine Aq ?_
 refine hret _ _ _ ?_
 refine ⟨rfl,rfl,Eq.trans (b:=(iV (0))) rfl ?_⟩
 have hi:inR l.most 0 (l.kinds.length:Int) = true:=Ge.2 q20
 rw [Gj,Gt q8,Jw,hi,if_pos rfl,if_neg (by omega),Fb fun j hj=>p30_1 j (by omega)]
end Go.Proofs.YtoefdnbaklajeaaDoor

namespace Go.Proofs.YtoefdnbaklajeaaDoor
open Go
def nodeAt (l:Lab) (t:List FNode) (i:Nat):Int:=match t[i]? with
  | none=>0
  | some x=>if inR x.test 0 ((l.tests.length:Int) - 1) then (if ((x.found != -1) && !inR x.found ((i + 1:Nat):Int) ((t.length:Int) - 1)) || ((x.not != -1) && !inR x.not ((i + 1:Nat):Int) ((t.length:Int) - 1)) then 7 else 0) else 6
def treeF (l:Lab) (t:List FNode):Int:=Hq t.length (nodeAt l t)
end Go.Proofs.YtoefdnbaklajeaaDoor

namespace Go.Proofs.YtoefdnbaklajeaaDoor
open Go
set_option maxRecDepth 100000 in
theorem c_Settled {mn:Bool} {X:Frame→List Frame→Ro→Own→Cy→Prop} {ρ:Ro} {σ:Own} {l:List Int} {vl:Value} (rl:Val ρ vl l):CallsH (CX mn X) 56 #[vl] ρ σ (fun w ρ' σ'=>ρ' = ρ∧σ' = σ∧w = (.bool (Dz l))):=by
 refine Bh (n:=20) (args:=[vl]) [2] Tryd.func56 rfl rfl rfl rfl fun Q hret hnor=>?_
 refine w_q rfl rfl fun K1 k1=>?_
 refine l_A (.bool (false)) rfl rfl ?_
 apply Ac
 apply k1
 refine Ai fun K2 k2=>?_
 refine w_q rfl rfl fun K3 k3=>?_
 refine l_A (iV (0)) rfl rfl ?_
 apply Ac
 apply k3
 refine Ao ?_
 refine Cc (fun mm ee dd ρ' σ'=>∃ (i:Nat),(l.length - i) = mm∧[] = dd∧ρ = ρ'∧σ = σ'∧ee 0 = vl∧ee 3 = (iV ((i:Int)))∧(i ≤ l.length)∧(∀ j,j < i→Ig l j = false)∧True) (m:=_) ⟨0,rfl,rfl,rfl,rfl,rfl,rfl,(Nat.zero_le _),(fun j h=>absurd h (Nat.not_lt_zero _)),trivial⟩ ?_
 rintro m4 e4 _ _ _ ⟨i,rfl,rfl,rfl,rfl,h4_0,h4_3,p4_0,p4_1,_⟩
 refine Ai fun K5 k5=>?_
 refine w_q rfl rfl fun K6 k6=>?_
 refine Aa rfl (Ah (v:=(iV ((i:Int)))) h4_3) ?_
 refine Aa rfl (Ah (v:=vl) h4_0) ?_
 have g7:=Val.len rl
 refine Aa rfl (Ce (el:=3) Tryd.underlying30 rfl rl) ?_
 refine Aa rfl (Da (p:=(i:Int)) (q:=((l.length:Nat):Int)) rfl rfl) ?_
 apply Ac
 apply k6
 refine As (t:=decide ((i:Int) < ((l.length:Nat):Int))) rfl (fun b8=>?_) (fun b8=>?_)
 ·have q8:=of_decide_eq_true b8
  refine Al ?_
  apply k5
  refine Ai fun K9 k9=>?_
  refine Ao ?_
  refine Ai fun K10 k10=>?_
  refine Dc [0,1,2,3,4,5,6,7,8,9] (by kernel_rfl) rfl rfl ?_
  refine Be (i:=0) zZ7 rfl (by kernel_rfl) rfl Ary rfl (Ah (v:=vl) h4_0) ?_
  refine Be (i:=1) zZ8 rfl (by kernel_rfl) rfl Ary rfl (Ah (v:=(iV ((i:Int)))) h4_3) ?_
  obtain ⟨a12,ha12⟩:=Ed (xs:=l) (i:=i) (by omega)
  refine Cd (i:=2) zZ9 rfl (by kernel_rfl) rfl Ary rfl (Ci i Tryd.underlying30 ty3 rfl rl (q:=(i:Int)) rfl rfl ha12) fun v11 r11=>?_
  have ⟨g13a,g13b⟩:=At.rng r11
  refine Be (i:=3) Aoz rfl (by kernel_rfl) rfl Ary rfl (Bc ty3 rfl r11) ?_
  refine Be (i:=4) Aol rfl (by kernel_rfl) rfl Ary rfl (Ek (p:=a12) (q:=0) rfl rfl) ?_
  refine Bg (i:=5) [o1,o1,o1,o1,o1,o1,o0,o0,o0,o0] rfl (by kernel_rfl) rfl Ary rfl (Ah (v:=vl) h4_0) ?_
  obtain ⟨a15,ha15⟩:=Ed (xs:=l) (i:=0) (by omega)
  refine Hl (i:=6) Ajy rfl (by kernel_rfl) rfl Ary rfl (Ci 0 Tryd.underlying30 ty3 rfl rl (q:=0) rfl rfl ha15) fun v14 r14=>?_
  have ⟨g16a,g16b⟩:=At.rng r14
  refine Bg (i:=7) Aho rfl (by kernel_rfl) rfl Ary rfl (Bc ty3 rfl r14) ?_
  refine Bg (i:=8) Aia rfl (by kernel_rfl) rfl Ary rfl (Ek (p:=a15) (q:=0) rfl rfl) ?_
  refine Bg (i:=9) Aiz rfl (by kernel_rfl) rfl Ary rfl (y_neqb Tryd.underlying4 (p:=a12 == 0) (q:=a15 == 0) rfl rfl) ?_
  refine Ec rfl ?_
  apply k10
  refine As (t:=(a12 == 0) != (a15 == 0)) rfl (fun b17=>?_) (fun b17=>?_)
  ·have q17:=Mb b17
   refine w_q rfl rfl fun K18 k18=>?_
   refine l_A (.bool (false)) rfl rfl ?_
   apply Ac
   apply k18
   refine Aq ?_
   refine hret _ _ _ ?_
   refine ⟨rfl,rfl,Eq.trans (b:=(.bool (false))) rfl ?_⟩
   rw [Aei (i:=i) (by omega) (by simp only [Ig,ha12,ha15]; exact b17)]
  have q17:=Jh b17
  refine Al ?_
  apply k9
  refine Ag rfl rfl ?_
  refine Aa rfl (Ah (v:=(iV ((i:Int)))) h4_3) ?_
  refine Aa rfl (Br (p:=(i:Int)) (q:=1) rfl rfl (z:=(((i + 1):Nat):Int)) (Bo (by first | rfl | omega | (push_cast; rfl)) (by omega) (by omega))) ?_
  refine l_A (iV ((((i + 1):Nat):Int))) rfl rfl ?_
  apply Ac
  refine ⟨_,?_,((i + 1)),rfl,rfl,rfl,rfl,h4_0,rfl,(by omega),(Ef p4_1 (by simp only [Ig,ha12,ha15]; exact b17)),trivial⟩
  omega
 have q8:=of_decide_eq_false b8
 refine Bx ?_
 apply k2
 refine w_q rfl rfl fun K19 k19=>?_
 refine l_A (.bool (true)) rfl rfl ?_
 apply Ac
 apply k19
 refine Aq ?_
 refine hret _ _ _ ?_
 refine ⟨rfl,rfl,Eq.trans (b:=(.bool (true))) rfl ?_⟩
 rw [Aep fun j hj=>p4_1 j (by omega)]
end Go.Proofs.YtoefdnbaklajeaaDoor

namespace Go.Proofs.YtoefdnbaklajeaaDoor
open Go
theorem pop8_all:(List.range 256).all (fun x=>De x == x % 2 + De (x / 2)) = true:=by decide +kernel
theorem pop8_step {x:Nat} (h:x < 256):De x = x % 2 + De (x / 2):=by
  have:=List.all_eq_true.1 pop8_all x (by simpa using h)
  simpa using this
theorem pop8_0:De 0 = 0:=by decide
theorem any_succ {p:Nat→Bool} {i:Nat}:(List.range (i + 1)).any p = ((List.range i).any p || p i):=by
  rw [List.range_succ,List.any_append]; simp
end Go.Proofs.YtoefdnbaklajeaaDoor

namespace Go.Proofs.YtoefdnbaklajeaaDoor
open Go
set_option maxRecDepth 100000 in
theorem c_size {mn:Bool} {X:Frame→List Frame→Ro→Own→Cy→Prop} {ρ:Ro} {σ:Own} {s:Nat} (hs:s < 256):CallsH (CX mn X) 99 #[(iV ((s:Int)))] ρ σ (fun w ρ' σ'=>ρ' = ρ∧σ' = σ∧w = (iV (((De s:Nat):Int)))):=by
 refine Bh (n:=13) (args:=[(iV ((s:Int)))]) [2] Tryd.func99 rfl rfl rfl rfl fun Q hret hnor=>?_
 refine w_q rfl rfl fun K1 k1=>?_
 refine l_A (iV (0)) rfl rfl ?_
 apply Ac
 apply k1
 refine w_q rfl rfl fun K2 k2=>?_
 refine l_A (iV (0)) rfl rfl ?_
 apply Ac
 apply k2
 refine Ai fun K3 k3=>?_
 refine Ao ?_
 refine Cc (fun mm ee dd ρ' σ'=>∃ (x:Nat) (c:Nat),(x) = mm∧[] = dd∧ρ = ρ'∧σ = σ'∧ee 0 = (iV ((x:Int)))∧ee 3 = (iV ((c:Int)))∧(c + x ≤ s)∧(c + De x = De s)∧True) (m:=_) ⟨s,0,rfl,rfl,rfl,rfl,rfl,rfl,(by omega),(Nat.zero_add _),trivial⟩ ?_
 rintro m4 e4 _ _ _ ⟨x,c,rfl,rfl,rfl,rfl,h4_0,h4_3,p4_0,p4_1,_⟩
 refine Ai fun K5 k5=>?_
 refine w_q rfl rfl fun K6 k6=>?_
 refine Aa rfl (Ah (v:=(iV ((x:Int)))) h4_0) ?_
 refine Aa rfl (Gk (p:=(x:Int)) (q:=0) rfl rfl) ?_
 apply Ac
 apply k6
 refine As (t:=decide ((x:Int) > 0)) rfl (fun b7=>?_) (fun b7=>?_)
 ·have q7:=of_decide_eq_true b7
  refine Al ?_
  apply k5
  refine Ao ?_
  refine w_q rfl rfl fun K8 k8=>?_
  refine Aa rfl (Ah (v:=(iV ((c:Int)))) h4_3) ?_
  refine Aa rfl (Ah (v:=(iV ((x:Int)))) h4_0) ?_
  refine Aa rfl (y_rem (p:=(x:Int)) (q:=2) rfl rfl (by omega) (z:=(((x % 2):Nat):Int)) rfl) ?_
  refine Aa rfl (Br (p:=(c:Int)) (q:=(((x % 2):Nat):Int)) rfl rfl (z:=(((c + (x % 2)):Nat):Int)) (Bo (by first | rfl | omega | (push_cast; rfl)) (by omega) (by omega))) ?_
  refine l_A (iV ((((c + (x % 2)):Nat):Int))) rfl rfl ?_
  apply Ac
  apply k8
  refine Ag rfl rfl ?_
  refine Aa rfl (Ah (v:=(iV ((x:Int)))) h4_0) ?_
  refine Aa rfl (y_quo (p:=(x:Int)) (q:=2) rfl rfl (by omega) (z:=(((x / 2):Nat):Int)) (Bo rfl (by omega) (by omega))) ?_
  refine l_A (iV ((((x / 2):Nat):Int))) rfl rfl ?_
  apply Ac
  refine ⟨_,?_,((x / 2)),((c + (x % 2))),rfl,rfl,rfl,rfl,rfl,rfl,(by omega),(by rw [← p4_1,pop8_step (x:=x) (by omega)]; omega),trivial⟩
  omega
 have q7:=of_decide_eq_false b7
 refine Bx ?_
 apply k3
 refine w_q rfl rfl fun K9 k9=>?_
 refine Aa rfl (Ah (v:=(iV ((c:Int)))) h4_3) ?_
 refine l_A (iV ((c:Int))) rfl rfl ?_
 apply Ac
 apply k9
 refine Aq ?_
 refine hret _ _ _ ?_
 refine ⟨rfl,rfl,Eq.trans (b:=(iV ((c:Int)))) rfl ?_⟩
 have hx:x = 0:=by omega
 subst hx
 rw [← p4_1,pop8_0,Nat.add_zero]
set_option maxRecDepth 100000 in
theorem c_Can {mn:Bool} {X:Frame→List Frame→Ro→Own→Cy→Prop} {ρ:Ro} {σ:Own} {t:FTest} {vt:Value} {s:Nat} {found:Bool} (rt:Val ρ vt t) (hs:s < 65536):CallsH (CX mn X) 107 #[vt,(iV ((s:Int))),(.bool (found))] ρ σ (fun w ρ' σ'=>ρ' = ρ∧σ' = σ∧w = (.bool (Afm t s found))):=by
 refine Bh (n:=46) (args:=[vt,(iV ((s:Int))),(.bool (found))]) [6] Tryd.func107 rfl rfl rfl rfl fun Q hret hnor=>?_
 refine w_q rfl rfl fun K1 k1=>?_
 refine Ae rfl (Eb (v:=vt) rfl fun k2=>?_)
 refine Bb (a:=t) rt fun ρ2 l2 r2=>?_
 replace rt:=Asa l2 rt
 refine l_A (.bool (false)) rfl rfl ?_
 apply Ac
 apply k1
 refine w_q rfl rfl fun K3 k3=>?_
 refine Ak rfl (Ay FTest.f_errs Tryd.underlying108 rfl rfl ty4 (by decide) rfl r2) fun v4 r4=>?_
 refine Aa rfl (Nw ty4 rfl r4) ?_
 refine l_A (.bool (t.errs)) rfl rfl ?_
 refine l_A (.bool (false)) rfl rfl ?_
 apply Ac
 apply k3
 refine Ai fun K6 k6=>?_
 refine w_q rfl rfl fun K7 k7=>?_
 refine l_A (iV (0)) rfl rfl ?_
 apply Ac
 apply k7
 refine Ao ?_
 refine Cc (fun mm ee dd ρ' σ'=>∃ (i:Nat) (so:Bool) (su:Bool),(t.sees.length - i) = mm∧[] = dd∧ρ2 = ρ'∧σ = σ'∧ee 1 = (iV ((s:Int)))∧ee 2 = (.bool (found))∧ee 3 = (.pointer (some ⟨k2,0,none⟩))∧ee 7 = (.bool (so))∧ee 8 = (.bool (su))∧ee 9 = (iV ((i:Int)))∧(i ≤ t.sees.length)∧(so = (t.errs || (List.range i).any (Ahz t s)))∧(su = (List.range i).any (Akd t s))∧True) (m:=_) ⟨0,t.errs,false,rfl,rfl,rfl,rfl,rfl,rfl,rfl,rfl,rfl,rfl,(Nat.zero_le _),(by simp),(by simp),trivial⟩ ?_
 rintro m8 e8 _ _ _ ⟨i,so,su,rfl,rfl,rfl,rfl,h8_1,h8_2,h8_3,h8_7,h8_8,h8_9,p8_0,p8_1,p8_2,_⟩
 refine Ai fun K9 k9=>?_
 refine w_q rfl rfl fun K10 k10=>?_
 refine Aa rfl (Ah (v:=(iV ((i:Int)))) h8_9) ?_
 refine Ak rfl (Ay FTest.f_sees Tryd.underlying108 rfl rfl Aex (by decide) h8_3 r2) fun v11 r11=>?_
 refine Ak rfl (Ax Aex rfl r11) fun v12 r12=>?_
 have g13:=Val.len r12
 refine Aa rfl (Ce (el:=53) Tryd.underlying46 rfl r12) ?_
 refine Aa rfl (Da (p:=(i:Int)) (q:=((t.sees.length:Nat):Int)) rfl rfl) ?_
 apply Ac
 apply k10
 refine As (t:=decide ((i:Int) < ((t.sees.length:Nat):Int))) rfl (fun b14=>?_) (fun b14=>?_)
 ·have q14:=of_decide_eq_true b14
  refine Al ?_
  apply k9
  refine Ai fun K15 k15=>?_
  refine Ao ?_
  refine w_q rfl rfl fun K16 k16=>?_
  refine Aa rfl (Ah (v:=(iV ((s:Int)))) h8_1) ?_
  refine Aa rfl (Ah (v:=(iV ((i:Int)))) h8_9) ?_
  refine Aa rfl (Jq (p:=s) (q:=i) rfl rfl rfl (by omega)) ?_
  refine Aa rfl (y_rem (p:=(((s >>> i):Nat):Int)) (q:=2) rfl rfl (by omega) (z:=((((s >>> i) % 2):Nat):Int)) rfl) ?_
  refine Aa rfl (Ek (p:=((((s >>> i) % 2):Nat):Int)) (q:=1) rfl rfl) ?_
  apply Ac
  apply k16
  refine As (t:=((((s >>> i) % 2):Nat):Int) == 1) rfl (fun b17=>?_) (fun b17=>?_)
  ·have q17:=Jo b17
   refine w_q rfl rfl fun K18 k18=>?_
   refine Aa rfl (Ah (v:=(.bool (so))) h8_7) ?_
   refine l_M (.bool (so)) rfl rfl ?_
   refine Cn (so) (fun b19=>?_) (fun b19=>?_)
   ·refine Ap (Bl rfl rfl rfl b19) ?_
    refine Ap (Bl rfl rfl rfl b19) ?_
    refine Ap (Bl rfl rfl rfl b19) ?_
    refine Ap (Bl rfl rfl rfl b19) ?_
    refine Ap (Bl rfl rfl rfl b19) ?_
    refine Ap (Bl rfl rfl rfl b19) ?_
    refine Aa rfl (Bt rfl b19 (v:=(.bool (true))) rfl) ?_
    refine l_A (.bool (true)) rfl rfl ?_
    apply Ac
    apply k18
    refine Ag rfl rfl ?_
    refine Aa rfl (Ah (v:=(.bool (su))) h8_8) ?_
    refine l_M (.bool (su)) rfl rfl ?_
    refine Cn (su) (fun b20=>?_) (fun b20=>?_)
    ·refine Ap (Bl rfl rfl rfl b20) ?_
     refine Ap (Bl rfl rfl rfl b20) ?_
     refine Ap (Bl rfl rfl rfl b20) ?_
     refine Ap (Bl rfl rfl rfl b20) ?_
     refine Ap (Bl rfl rfl rfl b20) ?_
     refine Ap (Bl rfl rfl rfl b20) ?_
     refine Aa rfl (Bt rfl b20 (v:=(.bool (true))) rfl) ?_
     refine l_A (.bool (true)) rfl rfl ?_
     apply Ac
     apply k15
     refine Ag rfl rfl ?_
     refine Aa rfl (Ah (v:=(iV ((i:Int)))) h8_9) ?_
     refine Aa rfl (Br (p:=(i:Int)) (q:=1) rfl rfl (z:=(((i + 1):Nat):Int)) (Bo (by first | rfl | omega | (push_cast; rfl)) (by omega) (by omega))) ?_
     refine l_A (iV ((((i + 1):Nat):Int))) rfl rfl ?_
     apply Ac
     refine ⟨_,?_,((i + 1)),(true),(true),rfl,rfl,rfl,rfl,h8_1,h8_2,h8_3,rfl,rfl,rfl,(by omega),(by rw [any_succ,← Bool.or_assoc,← p8_1]; simp [Ahz,Aql b17,b14,b17,b19,b20]),(by rw [any_succ,← p8_2]; simp [Akd,Aql b17,b14,b17,b19,b20]),trivial⟩
     omega
    refine Ak (Ar rfl rfl rfl b20) (Ay FTest.f_sees Tryd.underlying108 rfl rfl Aex (by decide) h8_3 r2) fun v21 r21=>?_
    refine Ak (Ar rfl rfl rfl b20) (Ax Aex rfl r21) fun v22 r22=>?_
    refine Aa (Ar rfl rfl rfl b20) (Ah (v:=(iV ((i:Int)))) h8_9) ?_
    obtain ⟨a24,ha24⟩:=Ed (xs:=t.sees) (i:=i) (by omega)
    refine Ak (Ar rfl rfl rfl b20) (Ci i Tryd.underlying46 Ov rfl r22 (q:=(i:Int)) rfl rfl ha24) fun v23 r23=>?_
    have ⟨g25a,g25b⟩:=At.rng r23
    refine Aa (Ar rfl rfl rfl b20) (Bc Ov rfl r23) ?_
    refine Aa (Ar rfl rfl rfl b20) (Ek (p:=a24) (q:=1) rfl rfl) ?_
    refine Aa rfl (Bm rfl b20 (v:=(.bool (a24 == 1))) rfl) ?_
    refine l_A (.bool (a24 == 1)) rfl rfl ?_
    apply Ac
    apply k15
    refine Ag rfl rfl ?_
    refine Aa rfl (Ah (v:=(iV ((i:Int)))) h8_9) ?_
    refine Aa rfl (Br (p:=(i:Int)) (q:=1) rfl rfl (z:=(((i + 1):Nat):Int)) (Bo (by first | rfl | omega | (push_cast; rfl)) (by omega) (by omega))) ?_
    refine l_A (iV ((((i + 1):Nat):Int))) rfl rfl ?_
    apply Ac
    refine ⟨_,?_,((i + 1)),(true),(a24 == 1),rfl,rfl,rfl,rfl,h8_1,h8_2,h8_3,rfl,rfl,rfl,(by omega),(by rw [any_succ,← Bool.or_assoc,← p8_1]; simp [Ahz,Aql b17,b14,b17,b19,b20,ha24]),(by rw [any_succ,← p8_2]; simp [Akd,Aql b17,b14,b17,b19,b20,ha24]),trivial⟩
    omega
   refine Ak (Ar rfl rfl rfl b19) (Ay FTest.f_sees Tryd.underlying108 rfl rfl Aex (by decide) h8_3 r2) fun v26 r26=>?_
   refine Ak (Ar rfl rfl rfl b19) (Ax Aex rfl r26) fun v27 r27=>?_
   refine Aa (Ar rfl rfl rfl b19) (Ah (v:=(iV ((i:Int)))) h8_9) ?_
   obtain ⟨a29,ha29⟩:=Ed (xs:=t.sees) (i:=i) (by omega)
   refine Ak (Ar rfl rfl rfl b19) (Ci i Tryd.underlying46 Ov rfl r27 (q:=(i:Int)) rfl rfl ha29) fun v28 r28=>?_
   have ⟨g30a,g30b⟩:=At.rng r28
   refine Aa (Ar rfl rfl rfl b19) (Bc Ov rfl r28) ?_
   refine Aa (Ar rfl rfl rfl b19) (Dg (p:=a29) (q:=2) rfl rfl) ?_
   refine Aa rfl (Bm rfl b19 (v:=(.bool (a29 != 2))) rfl) ?_
   refine l_A (.bool (a29 != 2)) rfl rfl ?_
   apply Ac
   apply k18
   refine Ag rfl rfl ?_
   refine Aa rfl (Ah (v:=(.bool (su))) h8_8) ?_
   refine l_M (.bool (su)) rfl rfl ?_
   refine Cn (su) (fun b31=>?_) (fun b31=>?_)
   ·refine Ap (Bl rfl rfl rfl b31) ?_
    refine Ap (Bl rfl rfl rfl b31) ?_
    refine Ap (Bl rfl rfl rfl b31) ?_
    refine Ap (Bl rfl rfl rfl b31) ?_
    refine Ap (Bl rfl rfl rfl b31) ?_
    refine Ap (Bl rfl rfl rfl b31) ?_
    refine Aa rfl (Bt rfl b31 (v:=(.bool (true))) rfl) ?_
    refine l_A (.bool (true)) rfl rfl ?_
    apply Ac
    apply k15
    refine Ag rfl rfl ?_
    refine Aa rfl (Ah (v:=(iV ((i:Int)))) h8_9) ?_
    refine Aa rfl (Br (p:=(i:Int)) (q:=1) rfl rfl (z:=(((i + 1):Nat):Int)) (Bo (by first | rfl | omega | (push_cast; rfl)) (by omega) (by omega))) ?_
    refine l_A (iV ((((i + 1):Nat):Int))) rfl rfl ?_
    apply Ac
    refine ⟨_,?_,((i + 1)),(a29 != 2),(true),rfl,rfl,rfl,rfl,h8_1,h8_2,h8_3,rfl,rfl,rfl,(by omega),(by rw [any_succ,← Bool.or_assoc,← p8_1]; simp [Ahz,Aql b17,b14,b17,b19,b31,ha29]),(by rw [any_succ,← p8_2]; simp [Akd,Aql b17,b14,b17,b19,b31,ha29]),trivial⟩
    omega
   refine Ak (Ar rfl rfl rfl b31) (Ay FTest.f_sees Tryd.underlying108 rfl rfl Aex (by decide) h8_3 r2) fun v32 r32=>?_
   refine Ak (Ar rfl rfl rfl b31) (Ax Aex rfl r32) fun v33 r33=>?_
   refine Aa (Ar rfl rfl rfl b31) (Ah (v:=(iV ((i:Int)))) h8_9) ?_
   refine Ak (Ar rfl rfl rfl b31) (Ci i Tryd.underlying46 Ov rfl r33 (q:=(i:Int)) rfl rfl ha29) fun v34 r34=>?_
   have ⟨g35a,g35b⟩:=At.rng r34
   refine Aa (Ar rfl rfl rfl b31) (Bc Ov rfl r34) ?_
   refine Aa (Ar rfl rfl rfl b31) (Ek (p:=a29) (q:=1) rfl rfl) ?_
   refine Aa rfl (Bm rfl b31 (v:=(.bool (a29 == 1))) rfl) ?_
   refine l_A (.bool (a29 == 1)) rfl rfl ?_
   apply Ac
   apply k15
   refine Ag rfl rfl ?_
   refine Aa rfl (Ah (v:=(iV ((i:Int)))) h8_9) ?_
   refine Aa rfl (Br (p:=(i:Int)) (q:=1) rfl rfl (z:=(((i + 1):Nat):Int)) (Bo (by first | rfl | omega | (push_cast; rfl)) (by omega) (by omega))) ?_
   refine l_A (iV ((((i + 1):Nat):Int))) rfl rfl ?_
   apply Ac
   refine ⟨_,?_,((i + 1)),(a29 != 2),(a29 == 1),rfl,rfl,rfl,rfl,h8_1,h8_2,h8_3,rfl,rfl,rfl,(by omega),(by rw [any_succ,← Bool.or_assoc,← p8_1]; simp [Ahz,Aql b17,b14,b17,b19,b31,ha29]),(by rw [any_succ,← p8_2]; simp [Akd,Aql b17,b14,b17,b19,b31,ha29]),trivial⟩
   omega
  have q17:=La b17
  refine Al ?_
  apply k15
  refine Ag rfl rfl ?_
  refine Aa rfl (Ah (v:=(iV ((i:Int)))) h8_9) ?_
  refine Aa rfl (Br (p:=(i:Int)) (q:=1) rfl rfl (z:=(((i + 1):Nat):Int)) (Bo (by first | rfl | omega | (push_cast; rfl)) (by omega) (by omega))) ?_
  refine l_A (iV ((((i + 1):Nat):Int))) rfl rfl ?_
  apply Ac
  refine ⟨_,?_,((i + 1)),(so),(su),rfl,rfl,rfl,rfl,h8_1,h8_2,h8_3,h8_7,h8_8,rfl,(by omega),(by rw [any_succ,← Bool.or_assoc,← p8_1]; simp [Ahz,Aqp b17,b14,b17]),(by rw [any_succ,← p8_2]; simp [Akd,Aqp b17,b14,b17]),trivial⟩
  omega
 have q14:=of_decide_eq_false b14
 refine Bx ?_
 apply k6
 refine Ai fun K36 k36=>?_
 refine w_q rfl rfl fun K37 k37=>?_
 refine Aa rfl (Ah (v:=(.bool (found))) h8_2) ?_
 apply Ac
 apply k37
 refine As (t:=found) rfl (fun b38=>?_) (fun b38=>?_)
 ·refine w_q rfl rfl fun K39 k39=>?_
  refine Aa rfl (Ah (v:=(.bool (so))) h8_7) ?_
  refine l_A (.bool (so)) rfl rfl ?_
  apply Ac
  apply k39
  refine Aj (Arw l2) ?_
  refine Aq ?_
  refine hret _ _ _ ?_
  refine ⟨rfl,rfl,Eq.trans (b:=(.bool (so))) rfl ?_⟩
  have hi:i = t.sees.length:=by omega
  subst hi
  simp only [Afm,b14,b38,if_true,Bool.false_eq_true,if_false,p8_1,p8_2]
 refine Al ?_
 apply k36
 refine w_q rfl rfl fun K40 k40=>?_
 refine Aa rfl (Ah (v:=(.bool (su))) h8_8) ?_
 refine Aa rfl (Ix (k:=su) rfl) ?_
 refine l_A (.bool (!(su))) rfl rfl ?_
 apply Ac
 apply k40
 refine Aj (Arw l2) ?_
 refine Aq ?_
 refine hret _ _ _ ?_
 refine ⟨rfl,rfl,Eq.trans (b:=(.bool (!(su)))) rfl ?_⟩
 have hi:i = t.sees.length:=by omega
 subst hi
 simp only [Afm,b14,b38,if_true,Bool.false_eq_true,if_false,p8_1,p8_2]
end Go.Proofs.YtoefdnbaklajeaaDoor

namespace Go.Proofs.YtoefdnbaklajeaaDoor
open Go
theorem ints_filter_succ {p:Nat→Bool} {i:Nat}:Bw ((List.range (i + 1)).filter p) = Bw ((List.range i).filter p) ++ (if p i then [(i:Int)] else []):=by
  unfold Bw
  rw [List.range_succ,List.filter_append,List.map_append]
  congr 1
  cases h:p i <;> simp [List.filter,h]
theorem ints_take_succ {p:Nat→Bool} {l:List Nat} {i a:Nat} (h:l[i]? = some a):Bw ((l.take (i + 1)).filter p) = Bw ((l.take i).filter p) ++ (if p a then [(a:Int)] else []):=by
  unfold Bw
  rw [List.take_add_one,h,List.filter_append,List.map_append]
  congr 1
  cases h:p a <;> simp [List.filter,h]
end Go.Proofs.YtoefdnbaklajeaaDoor

namespace Go.Proofs.YtoefdnbaklajeaaDoor
open Go
set_option maxRecDepth 100000 in
theorem c_refSets {mn:Bool} {X:Frame→List Frame→Ro→Own→Cy→Prop} {ρ:Ro} {σ:Own} {l:Lab} {vl:Value} (rl:Val ρ vl l) (ok:LabOk l):CallsH (CX mn X) 101 #[vl] ρ σ (fun w ρ' σ'=>Ro.le ρ ρ'∧σ' = σ∧Val ρ' w (Bw (Hk l):List Int)):=by
 have hk:=ok.n4
 have hsm:=Rj hk
 refine Bh (n:=23) (args:=[vl]) [2] Tryd.func101 rfl rfl rfl rfl fun Q hret hnor=>?_
 refine w_q rfl rfl fun K1 k1=>?_
 refine Ae rfl (Eb (v:=vl) rfl fun k2=>?_)
 refine Bb (a:=l) rl fun ρ2 l2 r2=>?_
 replace rl:=Asa l2 rl
 refine l_A (.slice none 0 0) rfl rfl ?_
 apply Ac
 apply k1
 refine w_q rfl rfl fun K3 k3=>?_
 refine l_A (.slice none 0 0) rfl rfl ?_
 apply Ac
 apply k3
 refine Ai fun K4 k4=>?_
 refine w_q rfl rfl fun K5 k5=>?_
 refine l_A (iV (0)) rfl rfl ?_
 apply Ac
 apply k5
 refine Ao ?_
 refine Cc (fun mm ee dd ρ' σ'=>∃ (i:Nat) (ov6_3:Value) (og6_3:Own),(1 <<< l.kinds.length - i) = mm∧[] = dd∧Ro.le ρ2 ρ'∧(og6_3 ++ σ) = σ'∧ee 1 = (.pointer (some ⟨k2,0,none⟩))∧ee 3 = ov6_3∧ee 4 = (iV ((i:Int)))∧(i ≤ 1 <<< l.kinds.length)∧Grow ρ' 3 ov6_3 (Bw ((List.range i).filter (Adf l))) og6_3∧True) (m:=_) ⟨0,(.slice none 0 0),[],rfl,rfl,Ary,rfl,rfl,rfl,rfl,(Nat.zero_le _),Hn,trivial⟩ ?_
 rintro m6 e6 _ ρ6 _ ⟨i,ov6_3,og6_3,rfl,rfl,l6,rfl,h6_1,h6_3,h6_4,p6_0,OG6_3,_⟩
 replace r2:=Arv l6 r2
 refine Ai fun K7 k7=>?_
 refine w_q rfl rfl fun K8 k8=>?_
 refine Aa rfl (Ah (v:=(iV ((i:Int)))) h6_4) ?_
 refine Ak rfl (Ay Lab.f_kinds Tryd.underlying40 rfl rfl Hu (by decide) h6_1 r2) fun v9 r9=>?_
 refine Ak rfl (Ax Hu rfl r9) fun v10 r10=>?_
 have g11:=Val.len r10
 refine Aa rfl (Ce (el:=9) Tryd.underlying22 rfl r10) ?_
 refine Aa rfl (Ly (p:=1) (q:=l.kinds.length) rfl rfl rfl (by omega) (z:=(((1 <<< l.kinds.length):Nat):Int)) (Bo rfl (by omega) (by omega))) ?_
 refine Aa rfl (Da (p:=(i:Int)) (q:=(((1 <<< l.kinds.length):Nat):Int)) rfl rfl) ?_
 apply Ac
 apply k8
 refine As (t:=decide ((i:Int) < (((1 <<< l.kinds.length):Nat):Int))) rfl (fun b12=>?_) (fun b12=>?_)
 ·have q12:=of_decide_eq_true b12
  refine Al ?_
  apply k7
  refine Ai fun K13 k13=>?_
  refine Ao ?_
  refine Ai fun K14 k14=>?_
  refine Dc [0,1,2,3,4] (by kernel_rfl) rfl rfl ?_
  refine Be (i:=0) [o1,o0,o0,o0,o0] rfl (by kernel_rfl) rfl Ary rfl (Ah (v:=(iV ((i:Int)))) h6_4) ?_
  refine Cd (i:=2) [o1,o0,o1,o0,o0] rfl (by kernel_rfl) rfl Ary rfl (Ay Lab.f_most Tryd.underlying40 rfl rfl ty3 (by decide) h6_1 r2) fun v15 r15=>?_
  have ⟨g16a,g16b⟩:=At.rng r15
  refine Be (i:=3) [o1,o0,o1,o1,o0] rfl (by kernel_rfl) rfl Ary rfl (Bc ty3 rfl r15) ?_
  refine Dj (i:=1) [o1,o1,o1,o1,o0] rfl (by kernel_rfl) rfl rfl (Bn (vs:=[(iV ((i:Int)))]) (v:=(iV (((De i:Nat):Int)))) (c_size (by omega)) Tryd.func99 rfl rfl ⟨rfl,trivial⟩ ⟨Ary,?_⟩)
  refine Bg (i:=4) [o1,o1,o1,o1,o1] rfl (by kernel_rfl) rfl Ary rfl (Tx (p:=((De i:Nat):Int)) (q:=l.most) rfl rfl) ?_
  refine Ec rfl ?_
  apply k14
  refine As (t:=decide (((De i:Nat):Int) ≤ l.most)) rfl (fun b17=>?_) (fun b17=>?_)
  ·have q17:=of_decide_eq_true b17
   refine Ag rfl rfl ?_
   refine Aa rfl (Ah (v:=ov6_3) h6_3) ?_
   refine Aa rfl (Ah (v:=(iV ((i:Int)))) h6_4) ?_
   refine Ae rfl (Bi (α:=Int) (xs:=[(i:Int)]) (vs:=[(iV ((i:Int)))]) Tryd.underlying30 ty3 zr3 rfl (by decide) (Dl (os:=[.tmp 19]) ⟨rfl,trivial⟩) ⟨(Cv.2 ⟨rfl,by constructor <;> omega⟩),trivial⟩ rfl (by decide) fun k18 cs18 R18=>?_)
   have G18:Grow ρ6 3 (.slice (some ⟨k18,0,none⟩) 1 1) ([(i:Int)]:List Int) [(k18,.obj (.cells cs18.toArray 3 (0,0)))]:=Bs R18 rfl (by decide)
   refine Ca G18 fun ρ20 l20 r20=>?_
   replace r2:=Arv l20 r2
   replace OG6_3:=Grow.mono l20 OG6_3
   refine Ae rfl (Fx (σ:=σ) (gr:=og6_3) (xs:=Bw ((List.range i).filter (Adf l))) (ys:=([(i:Int)]:List Int)) Tryd.underlying30 Tryd.underlying30 (Ab Tryd.typeInfo3) rfl (Nat.le_of_ble_eq_true rfl) rfl rfl rfl rfl OG6_3 r20 (by have h1:=List.length_filter_le (Adf l) (List.range i); simp only [Fe,List.length_append,List.length_cons,List.length_nil,List.length_range,List.length_take] at *; omega) fun v19 gr19 G19=>?_)
   refine l_A v19 rfl rfl ?_
   apply Ac
   apply k13
   refine Ag rfl rfl ?_
   refine Aa rfl (Ah (v:=(iV ((i:Int)))) h6_4) ?_
   refine Aa rfl (Br (p:=(i:Int)) (q:=1) rfl rfl (z:=(((i + 1):Nat):Int)) (Bo (by first | rfl | omega | (push_cast; rfl)) (by omega) (by omega))) ?_
   refine l_A (iV ((((i + 1):Nat):Int))) rfl rfl ?_
   apply Ac
   refine ⟨_,?_,((i + 1)),v19,gr19,rfl,rfl,(Arz l6 l20),rfl,h6_1,rfl,rfl,(by omega),(Ga (by rw [ints_filter_succ]; simp [Adf,b12,b17]) G19),trivial⟩
   omega
  have q17:=of_decide_eq_false b17
  refine Al ?_
  apply k13
  refine Ag rfl rfl ?_
  refine Aa rfl (Ah (v:=(iV ((i:Int)))) h6_4) ?_
  refine Aa rfl (Br (p:=(i:Int)) (q:=1) rfl rfl (z:=(((i + 1):Nat):Int)) (Bo (by first | rfl | omega | (push_cast; rfl)) (by omega) (by omega))) ?_
  refine l_A (iV ((((i + 1):Nat):Int))) rfl rfl ?_
  apply Ac
  refine ⟨_,?_,((i + 1)),ov6_3,og6_3,rfl,rfl,l6,rfl,h6_1,h6_3,rfl,(by omega),(Ga (by rw [ints_filter_succ]; simp [Adf,b12,b17]) OG6_3),trivial⟩
  omega
 have q12:=of_decide_eq_false b12
 refine Bx ?_
 apply k4
 refine w_q rfl rfl fun K21 k21=>?_
 refine Aa rfl (Ah (v:=ov6_3) h6_3) ?_
 refine l_A ov6_3 rfl rfl ?_
 apply Ac
 apply k21
 refine Gy OG6_3 fun ρ22 l22 r22=>?_
 refine Aq ?_
 refine hret _ _ _ ?_
 refine ⟨(Arz (Arz l2 l6) l22),rfl,Aci (v:=ov6_3) rfl (Val.cast ?_ r22)⟩
 ·have hi:i = 1 <<< l.kinds.length:=by omega
  rw [hi]; rfl
set_option maxRecDepth 100000 in
theorem c_refafter {mn:Bool} {X:Frame→List Frame→Ro→Own→Cy→Prop} {ρ:Ro} {σ:Own} {l:Lab} {vl vs vr:Value} {sets:List Nat} {r:Found} (rl:Val ρ vl l) (rs:Val ρ vs (Bw sets)) (rr:Val ρ vr r) (hr:0 ≤ r.test∧r.test < (l.tests.length:Int)) (hs:∀ a ∈ sets,a < 16) (hl:sets.length ≤ 16):CallsH (CX mn X) 108 #[vl,vs,vr] ρ σ (fun w ρ' σ'=>Ro.le ρ ρ'∧σ' = σ∧Val ρ' w (Bw (Au l sets r):List Int)):=by
 have hl2:=Fe (l:=sets)
 refine Bh (n:=36) (args:=[vl,vs,vr]) [6] Tryd.func108 rfl rfl rfl rfl fun Q hret hnor=>?_
 refine w_q rfl rfl fun K1 k1=>?_
 refine Ae rfl (Eb (v:=vl) rfl fun k2=>?_)
 refine Bb (a:=l) rl fun ρ2 l2 r2=>?_
 replace rl:=Asa l2 rl
 replace rs:=Asa l2 rs
 replace rr:=Asa l2 rr
 refine Ae rfl (Eb (v:=vr) rfl fun k3=>?_)
 refine Bb (a:=r) rr fun ρ3 l3 r3=>?_
 replace rl:=Asa l3 rl
 replace rs:=Asa l3 rs
 replace rr:=Asa l3 rr
 replace r2:=Arv l3 r2
 refine l_A (.slice none 0 0) rfl rfl ?_
 apply Ac
 apply k1
 refine w_q rfl rfl fun K4 k4=>?_
 refine l_A (.slice none 0 0) rfl rfl ?_
 apply Ac
 apply k4
 refine Ai fun K5 k5=>?_
 refine w_q rfl rfl fun K6 k6=>?_
 refine l_A (iV (0)) rfl rfl ?_
 apply Ac
 apply k6
 refine Ao ?_
 refine Cc (fun mm ee dd ρ' σ'=>∃ (i:Nat) (ov7_7:Value) (og7_7:Own),(sets.length - i) = mm∧[] = dd∧Ro.le ρ3 ρ'∧(og7_7 ++ σ) = σ'∧ee 1 = vs∧ee 3 = (.pointer (some ⟨k2,0,none⟩))∧ee 5 = (.pointer (some ⟨k3,0,none⟩))∧ee 7 = ov7_7∧ee 8 = (iV ((i:Int)))∧(i ≤ sets.length)∧Grow ρ' 3 ov7_7 (Bw ((sets.take i).filter (Qg l r))) og7_7∧True) (m:=_) ⟨0,(.slice none 0 0),[],rfl,rfl,Ary,rfl,rfl,rfl,rfl,rfl,rfl,(Nat.zero_le _),Hn,trivial⟩ ?_
 rintro m7 e7 _ ρ7 _ ⟨i,ov7_7,og7_7,rfl,rfl,l7,rfl,h7_1,h7_3,h7_5,h7_7,h7_8,p7_0,OG7_7,_⟩
 replace rs:=Asa l7 rs
 replace r2:=Arv l7 r2
 replace r3:=Arv l7 r3
 refine Ai fun K8 k8=>?_
 refine w_q rfl rfl fun K9 k9=>?_
 refine Aa rfl (Ah (v:=(iV ((i:Int)))) h7_8) ?_
 refine Aa rfl (Ah (v:=vs) h7_1) ?_
 have g10:=Val.len rs
 refine Aa rfl (Ce (el:=3) Tryd.underlying30 rfl rs) ?_
 refine Aa rfl (Da (p:=(i:Int)) (q:=(((Bw sets).length:Nat):Int)) rfl rfl) ?_
 apply Ac
 apply k9
 refine As (t:=decide ((i:Int) < (((Bw sets).length:Nat):Int))) rfl (fun b11=>?_) (fun b11=>?_)
 ·have q11:=of_decide_eq_true b11
  refine Al ?_
  apply k8
  refine Ai fun K12 k12=>?_
  refine Ao ?_
  refine Ai fun K13 k13=>?_
  refine Dc [0,1,2,3,4,5,6,7,8,9,10,11,12] (by kernel_rfl) rfl rfl ?_
  refine Cd (i:=0) [o1,o0,o0,o0,o0,o0,o0,o0,o0,o0,o0,o0,o0] rfl (by kernel_rfl) rfl Ary rfl (Ay Lab.f_tests Tryd.underlying40 rfl rfl Vd (by decide) h7_3 r2) fun v14 r14=>?_
  refine Cd (i:=1) [o1,o1,o0,o0,o0,o0,o0,o0,o0,o0,o0,o0,o0] rfl (by kernel_rfl) rfl Ary rfl (Ax Vd rfl r14) fun v15 r15=>?_
  refine Cd (i:=2) [o1,o1,o1,o0,o0,o0,o0,o0,o0,o0,o0,o0,o0] rfl (by kernel_rfl) rfl Ary rfl (Ay Found.f_test Tryd.underlying43 rfl rfl ty3 (by decide) h7_5 r3) fun v16 r16=>?_
  have ⟨g17a,g17b⟩:=At.rng r16
  refine Be (i:=3) [o1,o1,o1,o1,o0,o0,o0,o0,o0,o0,o0,o0,o0] rfl (by kernel_rfl) rfl Ary rfl (Bc ty3 rfl r16) ?_
  obtain ⟨a19,ha19⟩:=Ed (xs:=l.tests) (i:=(r.test).toNat) (by omega)
  refine Cd (i:=4) [o1,o1,o1,o1,o1,o0,o0,o0,o0,o0,o0,o0,o0] rfl (by kernel_rfl) rfl Ary rfl (Ci ((r.test).toNat) Tryd.underlying38 Td rfl r15 (q:=r.test) rfl (by omega) ha19) fun v18 r18=>?_
  refine Cd (i:=5) [o1,o1,o1,o1,o1,o1,o0,o0,o0,o0,o0,o0,o0] rfl (by kernel_rfl) rfl Ary rfl (Ax Td rfl r18) fun v20 r20=>?_
  refine Be (i:=6) [o1,o1,o1,o1,o1,o1,o1,o0,o0,o0,o0,o0,o0] rfl (by kernel_rfl) rfl Ary rfl (Ah (v:=vs) h7_1) ?_
  refine Be (i:=7) [o1,o1,o1,o1,o1,o1,o1,o1,o0,o0,o0,o0,o0] rfl (by kernel_rfl) rfl Ary rfl (Ah (v:=(iV ((i:Int)))) h7_8) ?_
  obtain ⟨a22,ha22⟩:=Ed (xs:=Bw sets) (i:=i) (by omega)
  obtain ⟨b23,hb23,hz23⟩:=Uc ha22
  subst hz23
  have hq23:=hs b23 (List.mem_of_getElem? hb23)
  refine Cd (i:=8) [o1,o1,o1,o1,o1,o1,o1,o1,o1,o0,o0,o0,o0] rfl (by kernel_rfl) rfl Ary rfl (Ci i Tryd.underlying30 ty3 rfl rs (q:=(i:Int)) rfl rfl ha22) fun v21 r21=>?_
  have ⟨g24a,g24b⟩:=At.rng r21
  refine Be (i:=9) [o1,o1,o1,o1,o1,o1,o1,o1,o1,o1,o0,o0,o0] rfl (by kernel_rfl) rfl Ary rfl (Bc ty3 rfl r21) ?_
  refine Hl (i:=10) [o1,o1,o1,o1,o1,o1,o1,o1,o1,o1,o1,o0,o0] rfl (by kernel_rfl) rfl Ary rfl (Ay Found.f_found Tryd.underlying43 rfl rfl ty4 (by decide) h7_5 r3) fun v25 r25=>?_
  refine Bg (i:=11) [o1,o1,o1,o1,o1,o1,o1,o1,o1,o1,o1,o1,o0] rfl (by kernel_rfl) rfl Ary rfl (Nw ty4 rfl r25) ?_
  refine Dj (i:=12) [o1,o1,o1,o1,o1,o1,o1,o1,o1,o1,o1,o1,o1] rfl (by kernel_rfl) rfl rfl (Bn (vs:=[v20,(iV ((b23:Int))),(.bool (r.found))]) (v:=(.bool (Afm a19 b23 r.found))) (c_Can r20 (by omega)) Tryd.func107 rfl rfl ⟨rfl,rfl,rfl,trivial⟩ ⟨Ary,?_⟩)
  refine Ec rfl ?_
  apply k13
  refine As (t:=Afm a19 b23 r.found) rfl (fun b27=>?_) (fun b27=>?_)
  ·refine Ag rfl rfl ?_
   refine Aa rfl (Ah (v:=ov7_7) h7_7) ?_
   refine Aa rfl (Ah (v:=vs) h7_1) ?_
   refine Aa rfl (Ah (v:=(iV ((i:Int)))) h7_8) ?_
   refine Ak rfl (Ci i Tryd.underlying30 ty3 rfl rs (q:=(i:Int)) rfl rfl ha22) fun v28 r28=>?_
   have ⟨g29a,g29b⟩:=At.rng r28
   refine Aa rfl (Bc ty3 rfl r28) ?_
   refine Ae rfl (Bi (α:=Int) (xs:=[(b23:Int)]) (vs:=[(iV ((b23:Int)))]) Tryd.underlying30 ty3 zr3 rfl (by decide) (Dl (os:=[.tmp 32]) ⟨rfl,trivial⟩) ⟨(Cv.2 ⟨rfl,by constructor <;> omega⟩),trivial⟩ rfl (by decide) fun k30 cs30 R30=>?_)
   have G30:Grow ρ7 3 (.slice (some ⟨k30,0,none⟩) 1 1) ([(b23:Int)]:List Int) [(k30,.obj (.cells cs30.toArray 3 (0,0)))]:=Bs R30 rfl (by decide)
   refine Ca G30 fun ρ32 l32 r32=>?_
   replace rs:=Asa l32 rs
   replace r2:=Arv l32 r2
   replace r3:=Arv l32 r3
   replace OG7_7:=Grow.mono l32 OG7_7
   replace r28:=Arv l32 r28
   refine Ae rfl (Fx (σ:=σ) (gr:=og7_7) (xs:=Bw ((sets.take i).filter (Qg l r))) (ys:=([(b23:Int)]:List Int)) Tryd.underlying30 Tryd.underlying30 (Ab Tryd.typeInfo3) rfl (Nat.le_of_ble_eq_true rfl) rfl rfl rfl rfl OG7_7 r32 (by have h1:=List.length_filter_le (Qg l r) (sets.take i); simp only [Fe,List.length_append,List.length_cons,List.length_nil,List.length_range,List.length_take] at *; omega) fun v31 gr31 G31=>?_)
   refine l_A v31 rfl rfl ?_
   apply Ac
   apply k12
   refine Ag rfl rfl ?_
   refine Aa rfl (Ah (v:=(iV ((i:Int)))) h7_8) ?_
   refine Aa rfl (Br (p:=(i:Int)) (q:=1) rfl rfl (z:=(((i + 1):Nat):Int)) (Bo (by first | rfl | omega | (push_cast; rfl)) (by omega) (by omega))) ?_
   refine l_A (iV ((((i + 1):Nat):Int))) rfl rfl ?_
   apply Ac
   refine ⟨_,?_,((i + 1)),v31,gr31,rfl,rfl,(Arz l7 l32),rfl,h7_1,h7_3,h7_5,rfl,rfl,(by omega),(Ga (by rw [ints_take_succ hb23]; simp [Qg,ha19,b11,b27]) G31),trivial⟩
   omega
  refine Al ?_
  apply k12
  refine Ag rfl rfl ?_
  refine Aa rfl (Ah (v:=(iV ((i:Int)))) h7_8) ?_
  refine Aa rfl (Br (p:=(i:Int)) (q:=1) rfl rfl (z:=(((i + 1):Nat):Int)) (Bo (by first | rfl | omega | (push_cast; rfl)) (by omega) (by omega))) ?_
  refine l_A (iV ((((i + 1):Nat):Int))) rfl rfl ?_
  apply Ac
  refine ⟨_,?_,((i + 1)),ov7_7,og7_7,rfl,rfl,l7,rfl,h7_1,h7_3,h7_5,h7_7,rfl,(by omega),(Ga (by rw [ints_take_succ hb23]; simp [Qg,ha19,b11,b27]) OG7_7),trivial⟩
  omega
 have q11:=of_decide_eq_false b11
 refine Bx ?_
 apply k5
 refine w_q rfl rfl fun K33 k33=>?_
 refine Aa rfl (Ah (v:=ov7_7) h7_7) ?_
 refine l_A ov7_7 rfl rfl ?_
 apply Ac
 apply k33
 refine Gy OG7_7 fun ρ34 l34 r34=>?_
 refine Aq ?_
 refine hret _ _ _ ?_
 refine ⟨(Arz (Arz (Arz l2 l3) l7) l34),rfl,Aci (v:=ov7_7) rfl (Val.cast ?_ r34)⟩
 ·rw [List.take_of_length_le (by omega)]; rfl
set_option maxRecDepth 100000 in
theorem c_refRemain {mn:Bool} {X:Frame→List Frame→Ro→Own→Cy→Prop} {ρ:Ro} {σ:Own} {l:Lab} {vl vr:Value} {rs:List Found} (rl:Val ρ vl l) (rr:Val ρ vr rs) (ok:LabOk l) (hrs:∀ (i:Nat) (r:Found),rs[i]? = some r→0 ≤ r.test∧r.test < (l.tests.length:Int)):CallsH (CX mn X) 55 #[vl,vr] ρ σ (fun w ρ' σ'=>Ro.le ρ ρ'∧σ' = σ∧Val ρ' w (Bw (Ba l rs):List Int)):=by
 refine Bh (n:=23) (args:=[vl,vr]) [4] Tryd.func55 rfl rfl rfl rfl fun Q hret hnor=>?_
 refine w_q rfl rfl fun K1 k1=>?_
 refine Ae rfl (Eb (v:=vl) rfl fun k2=>?_)
 refine Bb (a:=l) rl fun ρ2 l2 r2=>?_
 replace rl:=Asa l2 rl
 replace rr:=Asa l2 rr
 refine l_A (.slice none 0 0) rfl rfl ?_
 apply Ac
 apply k1
 refine w_q rfl rfl fun K3 k3=>?_
 refine Ak rfl (Ax Aaj rfl r2) fun v4 r4=>?_
 refine Ae rfl (Cm (vs:=[v4]) (c_refSets r4 ok) Tryd.func101 rfl rfl ⟨rfl,trivial⟩ fun v5 ρ5 σ5 hc5=>?_)
 obtain ⟨l5,s5,r5⟩:=hc5
 replace s5:=s5.symm; subst s5
 replace rr:=Asa l5 rr
 replace r2:=Arv l5 r2
 replace r4:=Asa l5 r4
 refine l_A v5 rfl rfl ?_
 apply Ac
 apply k3
 refine Ai fun K6 k6=>?_
 refine w_q rfl rfl fun K7 k7=>?_
 refine l_A (iV (0)) rfl rfl ?_
 apply Ac
 apply k7
 refine Ao ?_
 refine Cc (fun mm ee dd ρ' σ'=>∃ (i:Nat) (vv8_5:Value),(rs.length - i) = mm∧[] = dd∧Ro.le ρ5 ρ'∧σ = σ'∧ee 1 = vr∧ee 2 = (.pointer (some ⟨k2,0,none⟩))∧ee 5 = vv8_5∧ee 6 = (iV ((i:Int)))∧(i ≤ rs.length)∧Val ρ' vv8_5 (Bw (Ba l (rs.take i)):List Int)∧True) (m:=_) ⟨0,v5,rfl,rfl,Ary,rfl,rfl,rfl,rfl,rfl,(Nat.zero_le _),(Val.cast (rfl) r5),trivial⟩ ?_
 rintro m8 e8 _ ρ8 _ ⟨i,vv8_5,rfl,rfl,l8,rfl,h8_1,h8_2,h8_5,h8_6,p8_0,VV8_5,_⟩
 replace rr:=Asa l8 rr
 replace r2:=Arv l8 r2
 refine Ai fun K9 k9=>?_
 refine w_q rfl rfl fun K10 k10=>?_
 refine Aa rfl (Ah (v:=(iV ((i:Int)))) h8_6) ?_
 refine Aa rfl (Ah (v:=vr) h8_1) ?_
 have g11:=Val.len rr
 refine Aa rfl (Ce (el:=43) Tryd.underlying41 rfl rr) ?_
 refine Aa rfl (Da (p:=(i:Int)) (q:=((rs.length:Nat):Int)) rfl rfl) ?_
 apply Ac
 apply k10
 refine As (t:=decide ((i:Int) < ((rs.length:Nat):Int))) rfl (fun b12=>?_) (fun b12=>?_)
 ·have q12:=of_decide_eq_true b12
  refine Al ?_
  apply k9
  refine Ai fun K13 k13=>?_
  refine Ao ?_
  refine Dc [0,1,2,3,4,5,6,7] (by kernel_rfl) rfl rfl ?_
  refine Cd (i:=0) [o1,o0,o0,o0,o0,o0,o0,o0] rfl (by kernel_rfl) rfl Ary rfl (Ax Aaj h8_2 r2) fun v14 r14=>?_
  refine Be (i:=1) [o1,o1,o0,o0,o0,o0,o0,o0] rfl (by kernel_rfl) rfl Ary rfl (Ah (v:=vv8_5) h8_5) ?_
  refine Be (i:=2) [o1,o1,o1,o0,o0,o0,o0,o0] rfl (by kernel_rfl) rfl Ary rfl (Ah (v:=vr) h8_1) ?_
  refine Bg (i:=3) [o1,o1,o1,o1,o0,o0,o0,o0] rfl (by kernel_rfl) rfl Ary rfl (Ah (v:=(iV ((i:Int)))) h8_6) ?_
  obtain ⟨a16,ha16⟩:=Ed (xs:=rs) (i:=i) (by omega)
  refine Hl (i:=4) [o1,o1,o1,o1,o1,o0,o0,o0] rfl (by kernel_rfl) rfl Ary rfl (Ci i Tryd.underlying41 Aax rfl rr (q:=(i:Int)) rfl rfl ha16) fun v15 r15=>?_
  refine Hl (i:=5) [o1,o1,o1,o1,o1,o1,o0,o0] rfl (by kernel_rfl) rfl Ary rfl (Ax Aax rfl r15) fun v17 r17=>?_
  refine Dj (i:=6) [o1,o1,o1,o1,o1,o1,o1,o0] rfl (by kernel_rfl) rfl rfl (Cm (vs:=[v14,vv8_5,v17]) (c_refafter (sets:=(Ba l (rs.take i))) r14 VV8_5 r17 (hrs _ _ ha16) (Qp ok).2 (Qp ok).1) Tryd.func108 rfl rfl ⟨rfl,rfl,rfl,trivial⟩ fun v18 ρ18 σ18 hc18=>?_)
  obtain ⟨l18,s18,r18⟩:=hc18
  replace s18:=s18.symm; subst s18
  replace rr:=Asa l18 rr
  replace r2:=Arv l18 r2
  replace VV8_5:=Asa l18 VV8_5
  replace r14:=Asa l18 r14
  replace r15:=Arv l18 r15
  replace r17:=Asa l18 r17
  refine ⟨l18,?_⟩
  refine Bg (i:=7) [o1,o1,o1,o1,o1,o1,o1,o1] rfl (by kernel_rfl) rfl l18 rfl (Cp (v:=v18) rfl) ?_
  refine Ec rfl ?_
  apply k13
  refine Ag rfl rfl ?_
  refine Aa rfl (Ah (v:=(iV ((i:Int)))) h8_6) ?_
  refine Aa rfl (Br (p:=(i:Int)) (q:=1) rfl rfl (z:=(((i + 1):Nat):Int)) (Bo (by first | rfl | omega | (push_cast; rfl)) (by omega) (by omega))) ?_
  refine l_A (iV ((((i + 1):Nat):Int))) rfl rfl ?_
  apply Ac
  refine ⟨_,?_,((i + 1)),v18,rfl,rfl,(Arz l8 l18),rfl,h8_1,h8_2,rfl,rfl,(by omega),(Val.cast (by rw [Zc ha16]) r18),trivial⟩
  omega
 have q12:=of_decide_eq_false b12
 refine Bx ?_
 apply k6
 refine w_q rfl rfl fun K19 k19=>?_
 refine Aa rfl (Ah (v:=vv8_5) h8_5) ?_
 refine l_A vv8_5 rfl rfl ?_
 apply Ac
 apply k19
 refine Aq ?_
 refine hret _ _ _ ?_
 refine ⟨(Arz (Arz l2 l5) l8),rfl,Aci (v:=vv8_5) rfl (Val.cast ?_ VV8_5)⟩
 ·rw [List.take_of_length_le (by omega)]
end Go.Proofs.YtoefdnbaklajeaaDoor

namespace Go.Proofs.YtoefdnbaklajeaaDoor
open Go
def firstAt (l:Lab) (rs:List Found) (i:Nat):Bool:=((Bw (Ba l (rs.take (i + 1)))).length:Int) == 0
def firstI (l:Lab) (rs:List Found):Int:=match Cl rs.length (firstAt l rs) with | some i=>(i:Int) | none=>-1
def firstV (l:Lab) (rs:List Found):Value:=if Hw l rs = 0 then .tuple #[.int .i64 (firstI l rs),.int .i64 0] else .tuple #[.int .i64 0,.int .i64 (Hw l rs)]
end Go.Proofs.YtoefdnbaklajeaaDoor

namespace Go.Proofs.YtoefdnbaklajeaaDoor
open Go
set_option maxRecDepth 100000 in
theorem c_Great {mn:Bool} {X:Frame→List Frame→Ro→Own→Cy→Prop} {ρ:Ro} {σ:Own} {l:Lab} {vl:Value} (rl:Val ρ vl l):CallsH (CX mn X) 23 #[vl] ρ σ (fun w ρ' σ'=>ρ' = ρ∧σ' = σ∧∃ b,w = .bool b):=by
 refine Bh (n:=57) (args:=[vl]) [2] Tryd.func23 rfl rfl rfl rfl fun Q hret hnor=>?_
 refine w_q rfl rfl fun K1 k1=>?_
 refine Ae rfl (Eb (v:=vl) rfl fun k2=>?_)
 refine Bb (a:=l) rl fun ρ2 l2 r2=>?_
 replace rl:=Asa l2 rl
 refine l_A (.bool (false)) rfl rfl ?_
 apply Ac
 apply k1
 refine Ai fun K3 k3=>?_
 refine w_q rfl rfl fun K4 k4=>?_
 refine Ak rfl (Ay Lab.f_kinds Tryd.underlying40 rfl rfl Hu (by decide) rfl r2) fun v5 r5=>?_
 refine Ak rfl (Ax Hu rfl r5) fun v6 r6=>?_
 have g7:=Val.len r6
 refine Aa rfl (Ce (el:=9) Tryd.underlying22 rfl r6) ?_
 refine Aa rfl (Gk (p:=((l.kinds.length:Nat):Int)) (q:=40) rfl rfl) ?_
 refine l_M (.bool (decide (((l.kinds.length:Nat):Int) > 40))) rfl rfl ?_
 refine Cn (decide (((l.kinds.length:Nat):Int) > 40)) (fun b8=>?_) (fun b8=>?_)
 ·have q8:=of_decide_eq_true b8
  refine Ap (Bl rfl rfl rfl b8) ?_
  refine Ap (Bl rfl rfl rfl b8) ?_
  refine Ap (Bl rfl rfl rfl b8) ?_
  refine Ap (Bl rfl rfl rfl b8) ?_
  refine Aa rfl (Bt rfl b8 (v:=(.bool (true))) rfl) ?_
  apply Ac
  apply k4
  refine Co rfl rfl ?_
  refine w_q rfl rfl fun K9 k9=>?_
  refine l_A (.bool (true)) rfl rfl ?_
  apply Ac
  apply k9
  refine Aj (Arw l2) ?_
  refine Aq ?_
  refine hret _ _ _ ?_
  exact ⟨rfl,rfl,_,rfl⟩
 have q8:=of_decide_eq_false b8
 refine Ak (Ar rfl rfl rfl b8) (Ay Lab.f_tests Tryd.underlying40 rfl rfl Vd (by decide) rfl r2) fun v10 r10=>?_
 refine Ak (Ar rfl rfl rfl b8) (Ax Vd rfl r10) fun v11 r11=>?_
 have g12:=Val.len r11
 refine Aa (Ar rfl rfl rfl b8) (Ce (el:=108) Tryd.underlying38 rfl r11) ?_
 refine Aa (Ar rfl rfl rfl b8) (Gk (p:=((l.tests.length:Nat):Int)) (q:=40) rfl rfl) ?_
 refine Aa rfl (Bm rfl b8 (v:=(.bool (decide (((l.tests.length:Nat):Int) > 40)))) rfl) ?_
 apply Ac
 apply k4
 refine As (t:=decide (((l.tests.length:Nat):Int) > 40)) rfl (fun b13=>?_) (fun b13=>?_)
 ·have q13:=of_decide_eq_true b13
  refine w_q rfl rfl fun K14 k14=>?_
  refine l_A (.bool (true)) rfl rfl ?_
  apply Ac
  apply k14
  refine Aj (Arw l2) ?_
  refine Aq ?_
  refine hret _ _ _ ?_
  exact ⟨rfl,rfl,_,rfl⟩
 have q13:=of_decide_eq_false b13
 refine Al ?_
 apply k3
 refine w_q rfl rfl fun K15 k15=>?_
 refine l_A (iV (0)) rfl rfl ?_
 apply Ac
 apply k15
 refine Ai fun K16 k16=>?_
 refine w_q rfl rfl fun K17 k17=>?_
 refine l_A (iV (0)) rfl rfl ?_
 apply Ac
 apply k17
 refine Ao ?_
 refine Cc (fun mm ee dd ρ' σ'=>∃ (i:Nat) (n:Int),(l.kinds.length - i) = mm∧[] = dd∧ρ2 = ρ'∧σ = σ'∧ee 1 = (.pointer (some ⟨k2,0,none⟩))∧ee 3 = (iV (n))∧ee 4 = (iV ((i:Int)))∧(i ≤ l.kinds.length)∧True) (m:=_) ⟨0,0,rfl,rfl,rfl,rfl,rfl,rfl,rfl,(Nat.zero_le _),trivial⟩ ?_
 rintro m18 e18 _ _ _ ⟨i,n,rfl,rfl,rfl,rfl,h18_1,h18_3,h18_4,p18_0,_⟩
 refine Ai fun K19 k19=>?_
 refine w_q rfl rfl fun K20 k20=>?_
 refine Aa rfl (Ah (v:=(iV ((i:Int)))) h18_4) ?_
 refine Ak rfl (Ay Lab.f_kinds Tryd.underlying40 rfl rfl Hu (by decide) h18_1 r2) fun v21 r21=>?_
 refine Ak rfl (Ax Hu rfl r21) fun v22 r22=>?_
 have g23:=Val.len r22
 refine Aa rfl (Ce (el:=9) Tryd.underlying22 rfl r22) ?_
 refine Aa rfl (Da (p:=(i:Int)) (q:=((l.kinds.length:Nat):Int)) rfl rfl) ?_
 apply Ac
 apply k20
 refine As (t:=decide ((i:Int) < ((l.kinds.length:Nat):Int))) rfl (fun b24=>?_) (fun b24=>?_)
 ·have q24:=of_decide_eq_true b24
  refine Al ?_
  apply k19
  refine Ai fun K25 k25=>?_
  refine Ao ?_
  refine Ag rfl rfl ?_
  refine Aa rfl (Ah (v:=(iV (n))) h18_3) ?_
  refine Ak rfl (Ay Lab.f_kinds Tryd.underlying40 rfl rfl Hu (by decide) h18_1 r2) fun v26 r26=>?_
  refine Ak rfl (Ax Hu rfl r26) fun v27 r27=>?_
  refine Aa rfl (Ah (v:=(iV ((i:Int)))) h18_4) ?_
  obtain ⟨a29,ha29⟩:=Ed (xs:=l.kinds) (i:=i) (by omega)
  refine Ak rfl (Ci i Tryd.underlying22 ty9 rfl r27 (q:=(i:Int)) rfl rfl ha29) fun v28 r28=>?_
  have g30:=At.slen r28
  refine Aa rfl (Oz ty9 rfl r28) ?_
  refine Aa rfl (Afb Tryd.underlying9 (s:=a29) rfl) ?_
  refine Aa rfl (Br (p:=n) (q:=((a29.size:Nat):Int)) rfl rfl (z:=(IntKind.i64.wrap (n + ((a29.size:Nat):Int)))) rfl) ?_
  refine l_A (iV ((IntKind.i64.wrap (n + ((a29.size:Nat):Int))))) rfl rfl ?_
  apply Ac
  apply k25
  refine Ag rfl rfl ?_
  refine Aa rfl (Ah (v:=(iV ((i:Int)))) h18_4) ?_
  refine Aa rfl (Br (p:=(i:Int)) (q:=1) rfl rfl (z:=(((i + 1):Nat):Int)) (Bo (by first | rfl | omega | (push_cast; rfl)) (by omega) (by omega))) ?_
  refine l_A (iV ((((i + 1):Nat):Int))) rfl rfl ?_
  apply Ac
  refine ⟨_,?_,((i + 1)),((IntKind.i64.wrap (n + ((a29.size:Nat):Int)))),rfl,rfl,rfl,rfl,h18_1,rfl,rfl,(by omega),trivial⟩
  omega
 have q24:=of_decide_eq_false b24
 refine Bx ?_
 apply k16
 refine Ai fun K31 k31=>?_
 refine w_q rfl rfl fun K32 k32=>?_
 refine l_A (iV (0)) rfl rfl ?_
 apply Ac
 apply k32
 refine Ao ?_
 refine Cc (fun mm ee dd ρ' σ'=>∃ (i:Nat) (n:Int),(l.tests.length - i) = mm∧[] = dd∧ρ2 = ρ'∧σ = σ'∧ee 1 = (.pointer (some ⟨k2,0,none⟩))∧ee 3 = (iV (n))∧ee 5 = (iV ((i:Int)))∧(i ≤ l.tests.length)∧True) (m:=_) ⟨0,n,rfl,rfl,rfl,rfl,h18_1,h18_3,rfl,(Nat.zero_le _),trivial⟩ ?_
 rintro m33 e33 _ _ _ ⟨i,n,rfl,rfl,rfl,rfl,h33_1,h33_3,h33_5,p33_0,_⟩
 refine Ai fun K34 k34=>?_
 refine w_q rfl rfl fun K35 k35=>?_
 refine Aa rfl (Ah (v:=(iV ((i:Int)))) h33_5) ?_
 refine Ak rfl (Ay Lab.f_tests Tryd.underlying40 rfl rfl Vd (by decide) h33_1 r2) fun v36 r36=>?_
 refine Ak rfl (Ax Vd rfl r36) fun v37 r37=>?_
 have g38:=Val.len r37
 refine Aa rfl (Ce (el:=108) Tryd.underlying38 rfl r37) ?_
 refine Aa rfl (Da (p:=(i:Int)) (q:=((l.tests.length:Nat):Int)) rfl rfl) ?_
 apply Ac
 apply k35
 refine As (t:=decide ((i:Int) < ((l.tests.length:Nat):Int))) rfl (fun b39=>?_) (fun b39=>?_)
 ·have q39:=of_decide_eq_true b39
  refine Al ?_
  apply k34
  refine Ai fun K40 k40=>?_
  refine Ao ?_
  refine Ai fun K41 k41=>?_
  refine w_q rfl rfl fun K42 k42=>?_
  refine Ak rfl (Ay Lab.f_tests Tryd.underlying40 rfl rfl Vd (by decide) h33_1 r2) fun v43 r43=>?_
  refine Ak rfl (Ax Vd rfl r43) fun v44 r44=>?_
  refine Aa rfl (Ah (v:=(iV ((i:Int)))) h33_5) ?_
  obtain ⟨a46,ha46⟩:=Ed (xs:=l.tests) (i:=i) (by omega)
  refine Ak rfl (Ci i Tryd.underlying38 Td rfl r44 (q:=(i:Int)) rfl rfl ha46) fun v45 r45=>?_
  refine Ak rfl (Ay FTest.f_sees Tryd.underlying108 rfl rfl Aex (by decide) rfl r45) fun v47 r47=>?_
  refine Ak rfl (Ax Aex rfl r47) fun v48 r48=>?_
  have g49:=Val.len r48
  refine Aa rfl (Ce (el:=53) Tryd.underlying46 rfl r48) ?_
  refine Aa rfl (Gk (p:=((a46.sees.length:Nat):Int)) (q:=40) rfl rfl) ?_
  apply Ac
  apply k42
  refine As (t:=decide (((a46.sees.length:Nat):Int) > 40)) rfl (fun b50=>?_) (fun b50=>?_)
  ·have q50:=of_decide_eq_true b50
   refine w_q rfl rfl fun K51 k51=>?_
   refine l_A (.bool (true)) rfl rfl ?_
   apply Ac
   apply k51
   refine Aj (Arw l2) ?_
   refine Aq ?_
   refine hret _ _ _ ?_
   exact ⟨rfl,rfl,_,rfl⟩
  have q50:=of_decide_eq_false b50
  refine Al ?_
  apply k41
  refine Ag rfl rfl ?_
  refine Aa rfl (Ah (v:=(iV (n))) h33_3) ?_
  refine Ak rfl (Ay Lab.f_tests Tryd.underlying40 rfl rfl Vd (by decide) h33_1 r2) fun v52 r52=>?_
  refine Ak rfl (Ax Vd rfl r52) fun v53 r53=>?_
  refine Aa rfl (Ah (v:=(iV ((i:Int)))) h33_5) ?_
  refine Ak rfl (Ci i Tryd.underlying38 Td rfl r53 (q:=(i:Int)) rfl rfl ha46) fun v54 r54=>?_
  refine Ak rfl (Ay FTest.f_name Tryd.underlying108 rfl rfl ty9 (by decide) rfl r54) fun v55 r55=>?_
  have g56:=At.slen r55
  refine Aa rfl (Oz ty9 rfl r55) ?_
  refine Aa rfl (Afb Tryd.underlying9 (s:=a46.name) rfl) ?_
  refine Aa rfl (Br (p:=n) (q:=((a46.name.size:Nat):Int)) rfl rfl (z:=(IntKind.i64.wrap (n + ((a46.name.size:Nat):Int)))) rfl) ?_
  refine l_A (iV ((IntKind.i64.wrap (n + ((a46.name.size:Nat):Int))))) rfl rfl ?_
  apply Ac
  apply k40
  refine Ag rfl rfl ?_
  refine Aa rfl (Ah (v:=(iV ((i:Int)))) h33_5) ?_
  refine Aa rfl (Br (p:=(i:Int)) (q:=1) rfl rfl (z:=(((i + 1):Nat):Int)) (Bo (by first | rfl | omega | (push_cast; rfl)) (by omega) (by omega))) ?_
  refine l_A (iV ((((i + 1):Nat):Int))) rfl rfl ?_
  apply Ac
  refine ⟨_,?_,((i + 1)),((IntKind.i64.wrap (n + ((a46.name.size:Nat):Int)))),rfl,rfl,rfl,rfl,h33_1,rfl,rfl,(by omega),trivial⟩
  omega
 have q39:=of_decide_eq_false b39
 refine Bx ?_
 apply k31
 refine w_q rfl rfl fun K57 k57=>?_
 refine Aa rfl (Ah (v:=(iV (n))) h33_3) ?_
 refine Aa rfl (Gk (p:=n) (q:=1000) rfl rfl) ?_
 refine l_A (.bool (decide (n > 1000))) rfl rfl ?_
 apply Ac
 apply k57
 refine Aj (Arw l2) ?_
 refine Aq ?_
 refine hret _ _ _ ?_
 exact ⟨rfl,rfl,_,rfl⟩
end Go.Proofs.YtoefdnbaklajeaaDoor

namespace Go.Proofs.YtoefdnbaklajeaaDoor
open Go
def endsR (l:Lab) (tree:List FNode):Nat→Int→List Nat→Bool
  | 0,_,sets=>Dz (Bw sets)
  | f + 1,a,sets=>if a < 0∨a ≥ (tree.length:Int)∨sets = [] then Dz (Bw sets) else match tree[a.toNat]? with
      | some n=>endsR l tree f n.found (Au l sets ⟨n.test,true⟩) && endsR l tree f n.not (Au l sets ⟨n.test,false⟩)
      | none=>false
def endsF (l:Lab) (tree:List FNode) (a:Int) (sets:List Nat):Bool:=endsR l tree (tree.length - a.toNat) a sets
structure NodeOk (l:Lab) (tree:List FNode):Prop where
  test:∀ (i:Nat) (n:FNode),tree[i]? = some n→0 ≤ n.test∧n.test < (l.tests.length:Int)
  found:∀ (i:Nat) (n:FNode),tree[i]? = some n→n.found = -1∨((i:Int) + 1 ≤ n.found∧n.found < (tree.length:Int))
  not:∀ (i:Nat) (n:FNode),tree[i]? = some n→n.not = -1∨((i:Int) + 1 ≤ n.not∧n.not < (tree.length:Int))
theorem treeF_0 {l:Lab} {tree:List FNode} (h:treeF l tree = 0):NodeOk l tree:=by
  unfold treeF at h
  rw [Fz] at h
  have key:∀ (i:Nat) (n:FNode),tree[i]? = some n→(0 ≤ n.test∧n.test < (l.tests.length:Int))∧(n.found = -1∨((i:Int) + 1 ≤ n.found∧n.found < (tree.length:Int)))∧(n.not = -1∨((i:Int) + 1 ≤ n.not∧n.not < (tree.length:Int))):=fun i n hn=>by
    have h1:=h i (List.getElem?_eq_some_iff.1 hn).1
    simp only [nodeAt,hn] at h1
    split at h1
    · rename_i hin
      have h2:=Ge.1 hin
      split at h1
      · cases h1
      · rename_i hc
        simp only [Bool.or_eq_true,Bool.and_eq_true,bne_iff_ne,ne_eq,Bool.not_eq_true',not_or,not_and,Bool.not_eq_false] at hc
        refine ⟨by omega,?_,?_⟩
        · by_cases e:n.found = -1
          · exact .inl e
          · have:=Ge.1 (hc.1 e); push_cast at this; exact .inr (by omega)
        · by_cases e:n.not = -1
          · exact .inl e
          · have:=Ge.1 (hc.2 e); push_cast at this; exact .inr (by omega)
    · cases h1
  exact ⟨fun i n hn=>(key i n hn).1,fun i n hn=>(key i n hn).2.1,fun i n hn=>(key i n hn).2.2⟩
theorem endsR_fuel {l:Lab} {tree:List FNode} (ok:NodeOk l tree):∀ (f g:Nat) (a:Int) (sets:List Nat),tree.length - a.toNat ≤ f→tree.length - a.toNat ≤ g→endsR l tree f a sets = endsR l tree g a sets:=by
  intro f
  induction f with
  | zero =>
    intro g a sets hf hg
    cases g with
    | zero=>rfl
    | succ g =>
      simp only [endsR]
      rw [if_pos (by omega)]
  | succ f ih =>
    intro g a sets hf hg
    cases g with
    | zero =>
      simp only [endsR]
      rw [if_pos (by omega)]
    | succ g =>
      simp only [endsR]
      split
      · rfl
      · rename_i hc
        rw [not_or,not_or] at hc
        cases hn:tree[a.toNat]? with
        | none=>rfl
        | some n =>
          simp only
          have h1:=ok.found _ n hn
          have h2:=ok.not _ n hn
          have hlt:=(List.getElem?_eq_some_iff.1 hn).1
          have key:∀ c:Int,(c = -1∨((a.toNat:Int) + 1 ≤ c∧c < (tree.length:Int)))→∀ s,endsR l tree f c s = endsR l tree g c s:=fun c hc' s=>by
            rcases hc' with rfl | hc'
            · have e:∀ k,endsR l tree k (-1) s = Dz (Bw s):=fun k=>by cases k <;> simp [endsR]
              rw [e,e]
            · exact ih g c s (by omega) (by omega)
          rw [key _ h1,key _ h2]
theorem ends_end {l:Lab} {tree:List FNode} {a:Int} {sets:List Nat} (h:a < 0∨a ≥ (tree.length:Int)∨sets = []):endsF l tree a sets = Dz (Bw sets):=by
  unfold endsF
  cases tree.length - a.toNat with
  | zero=>rfl
  | succ f=>simp only [endsR]; rw [if_pos h]
theorem ends_step {l:Lab} {tree:List FNode} (ok:NodeOk l tree) {a:Int} {sets:List Nat} {n:FNode} (h:¬ (a < 0∨a ≥ (tree.length:Int)∨sets = [])) (hn:tree[a.toNat]? = some n) :
    endsF l tree a sets = (endsF l tree n.found (Au l sets ⟨n.test,true⟩) && endsF l tree n.not (Au l sets ⟨n.test,false⟩)):=by
  have hlt:=(List.getElem?_eq_some_iff.1 hn).1
  have h1:=ok.found _ n hn
  have h2:=ok.not _ n hn
  obtain ⟨f,hf⟩:∃ f,tree.length - a.toNat = f + 1:=⟨tree.length - a.toNat - 1,by omega⟩
  have key:∀ c:Int,(c = -1∨((a.toNat:Int) + 1 ≤ c∧c < (tree.length:Int)))→∀ s,endsR l tree f c s = endsF l tree c s:=fun c hc' s=>by
    rcases hc' with rfl | hc'
    · have e:∀ k,endsR l tree k (-1) s = Dz (Bw s):=fun k=>by cases k <;> simp [endsR]
      unfold endsF
      rw [e,e]
    · exact endsR_fuel ok f _ c s (by omega) (Nat.le_refl _)
  unfold endsF
  rw [hf]
  simp only [endsR]
  rw [if_neg h,hn]
  simp only
  rw [key _ h1,key _ h2]
  rfl
def setlF (l:Lab) (rs:List Found) (tree:List FNode):Int:=orF (Cw l rs) (treeF l tree)
def setlB (l:Lab) (rs:List Found) (tree:List FNode):Bool:=if setlF l rs tree = 0 then endsF l tree 0 (Ba l rs) else false
end Go.Proofs.YtoefdnbaklajeaaDoor

namespace Go.Proofs.YtoefdnbaklajeaaDoor
open Go
section
variable {C:Ctx} {e:Env} {ds:List Deferred} {ρ:Ro} {σ:Own} {K:Value→List Deferred→Ro→Own→Prop} {rd:Option Nat} {dd:Option Tmp}
variable {ty:TypeId} {pos:String} {af:Array Edge} {g:Option (Nat × Bool)} {x y:Operand} {v:Value} {t t':TypeId}
end
section
variable {C:Ctx} {e:Env} {ds:List Deferred} {ρ:Ro} {σ:Own} {K:Value→List Deferred→Ro→Own→Prop} {rd:Option Nat} {dd:Option Tmp}
variable {ty:TypeId} {pos:String} {af:Array Edge} {g:Option (Nat × Bool)} {x y:Operand} {v:Value} {t t':TypeId}
end
def zc166:List Value:=[.map none]
theorem zr166:Gc Tryd.prog 166 (.map none):=⟨_,Ab Tryd.typeInfo166,rfl⟩
theorem ty167:GoTy Tryd.prog 167 RawV:=⟨⟨_,Tryd.underlying167,rfl⟩,⟨_,Ab Tryd.typeInfo167,rfl⟩⟩
theorem ty166:GoTy Tryd.prog 166 MapRef:=⟨⟨_,Tryd.underlying166,rfl⟩,⟨_,Ab Tryd.typeInfo166,rfl⟩⟩
end Go.Proofs.YtoefdnbaklajeaaDoor

namespace Go.Proofs.YtoefdnbaklajeaaDoor
open Go
def PlaceV (l:Lab) (tree:List FNode) (a b:Int) (w:Value):Prop:=∃ (at_:Int) (s:Nat),a = at_∧b = (s:Int)∧w = .bool (endsF l tree at_ (Av s))
theorem link_not {c i n:Int}:((c != -1) && !inR c i n) = !(c == -1 || inR c i n):=by
 cases h:c == -1 <;> simp [bne,h]
theorem i64_of {x:Int} (h1:-9223372036854775808 ≤ x) (h2:x ≤ 9223372036854775807):I64 x:=⟨h1,by omega⟩
theorem val_map {ρ:Ro} {r:Nat}:Val ρ (.map (some r)) (⟨r⟩:MapRef):=⟨[.map (some r)],rfl,rfl⟩
theorem placeV_get {l:Lab} {tree:List FNode} {a:Int} {s:Nat} {w:Value} (h:PlaceV l tree a (s:Int) w):w = .bool (endsF l tree a (Av s)):=by
 obtain ⟨a',s',h1,h2,h3⟩:=h
 obtain rfl:s = s':=by omega
 rw [h1]; exact h3
set_option maxRecDepth 100000 in
theorem c_links {mn:Bool} {X:Frame→List Frame→Ro→Own→Cy→Prop} {ρ:Ro} {σ:Own} {vpt:Value} {tree:List FNode} {c:Int} {i:Nat} (rpt:At ρ vpt tree) (hc:I64 c) (hi:i < 1000000) (htl:tree.length ≤ 1000000):CallsH (CX mn X) 104 #[(iV (c)),(iV ((i:Int))),vpt] ρ σ (fun w ρ' σ'=>ρ' = ρ∧σ' = σ∧w = (.bool (c == -1 || inR c ((i + 1:Nat):Int) ((tree.length:Int) - 1)))):=by
 obtain ⟨hc1,hc2⟩:=hc
 refine Bh (n:=17) (args:=[(iV (c)),(iV ((i:Int))),vpt]) [5] Tryd.func104 rfl rfl rfl rfl fun Q hret hnor=>?_
 refine w_q rfl rfl fun K1 k1=>?_
 refine l_A (.bool (false)) rfl rfl ?_
 apply Ac
 apply k1
 refine w_q rfl rfl fun K2 k2=>?_
 refine l_M (iV (c)) rfl rfl ?_
 refine Aa rfl (Ek (p:=c) (q:=(-1)) rfl rfl) ?_
 refine l_M (.bool (c == (-1))) rfl rfl ?_
 refine Cn (c == (-1)) (fun b3=>?_) (fun b3=>?_)
 ·have q3:=Jo b3
  refine Ap (Bl rfl rfl rfl b3) ?_
  refine Ap (Bl rfl rfl rfl b3) ?_
  refine Ap (Bl rfl rfl rfl b3) ?_
  refine Ap (Bl rfl rfl rfl b3) ?_
  refine Ap (Bl rfl rfl rfl b3) ?_
  refine Ap (Bl rfl rfl rfl b3) ?_
  refine Ap (Bl rfl rfl rfl b3) ?_
  refine Aa rfl (Bt rfl b3 (v:=(.bool (true))) rfl) ?_
  refine l_A (.bool (true)) rfl rfl ?_
  apply Ac
  apply k2
  refine Aq ?_
  refine hret _ _ _ ?_
  refine ⟨rfl,rfl,Eq.trans (b:=(.bool (true))) rfl ?_⟩
  rw [b3]; rfl
 have q3:=La b3
 refine l_M (iV (c)) (Ar rfl rfl rfl b3) rfl ?_
 refine l_M (iV ((i:Int))) (Ar rfl rfl rfl b3) rfl ?_
 refine Aa (Ar rfl rfl rfl b3) (Br (p:=(i:Int)) (q:=1) rfl rfl (z:=(((i + 1):Nat):Int)) (Bo (by first | rfl | omega | (push_cast; rfl)) (by omega) (by omega))) ?_
 refine Ak (Ar rfl rfl rfl b3) (Ax ty49 rfl rpt) fun v4 r4=>?_
 have g5:=Val.len r4
 refine Aa (Ar rfl rfl rfl b3) (Ce (el:=94) Tryd.underlying49 rfl r4) ?_
 refine Aa (Ar rfl rfl rfl b3) (Oq (p:=((tree.length:Nat):Int)) (q:=1) rfl rfl (z:=(((tree.length:Nat):Int) - 1)) (Bo (by first | rfl | omega | (push_cast; rfl)) (by omega) (by omega))) ?_
 refine Ae (Ar rfl rfl rfl b3) (Bn (vs:=[(iV (c)),(iV ((((i + 1):Nat):Int))),(iV ((((tree.length:Nat):Int) - 1)))]) (v:=(.bool (inR c ((((i + 1):Nat):Int)) ((((tree.length:Nat):Int) - 1))))) (Jn) Tryd.func92 rfl rfl ⟨rfl,rfl,rfl,trivial⟩ ?_)
 refine Aa rfl (Bm rfl b3 (v:=(.bool (inR c ((((i + 1):Nat):Int)) ((((tree.length:Nat):Int) - 1))))) rfl) ?_
 refine l_A (.bool (inR c ((((i + 1):Nat):Int)) ((((tree.length:Nat):Int) - 1)))) rfl rfl ?_
 apply Ac
 apply k2
 refine Aq ?_
 refine hret _ _ _ ?_
 refine ⟨rfl,rfl,Eq.trans (b:=(.bool (inR c ((((i + 1):Nat):Int)) ((((tree.length:Nat):Int) - 1))))) rfl ?_⟩
 rw [b3,Bool.false_or]
set_option maxRecDepth 100000 in
theorem c_endsP {mn:Bool} {X:Frame→List Frame→Ro→Own→Cy→Prop} {ρ:Ro} {σ:Own} {l:Lab} {vpt vpm vpf vpb:Value} {tree:List FNode} {at_:Int} {s k rq rm:Nat} {es:Array MapEntry} {ck:Nat} (hg:Glob ρ) (hat:-1 ≤ at_∧at_ < 1000000) (hk:(at_ = -1∧k = 0)∨(0 ≤ at_∧k = tree.length - at_.toNat)) (rpt:At ρ vpt tree) (rpm:At ρ vpm (⟨rq⟩:MapRef)) (rpf:At ρ vpf (RawV.mk (.func (.func 105) #[] #[vpt,vpm,vpf,vpb]))) (rpb:At ρ vpb (Ptr.mk (⟨l.tests.map Dr,((Bf (Hk l):Nat):Int),⟨rm⟩⟩:Bench):Ptr Bench)) (hs:s < 65536) (hM:Jv es (PlaceV l tree)) (hl:Gj l = 0) (ok2:NodeOk l tree) (htl:tree.length ≤ 1000000):CallsH (CX mn X) 105 #[(.agg #[.int .i64 at_,iV (s:Int)]),vpt,vpm,vpf,vpb] ρ (((rq,Res.obj (Obj.map es ck)) :: σ)) (fun w ρ' σ'=>ρ' = ρ∧∃ es' ck',w = .bool (endsF l tree at_ (Av s))∧σ' = (rq,.obj (.map es' ck')) :: σ∧Jv es' (PlaceV l tree)):=by
 induction k using Nat.strongRecOn generalizing at_ s vpt vpm vpf vpb ρ es ck
 rename_i k ih
 have rs0:Val ρ (.agg #[.int .i64 at_,iV (s:Int)]) (⟨at_,(s:Int)⟩:Place):=Place.shut (x:=(⟨at_,(s:Int)⟩:Place)) (show I64 at_ from by constructor <;> omega) (show I64 (s:Int) from by constructor <;> omega)
 refine Bh (n:=70) (args:=[(.agg #[.int .i64 at_,iV (s:Int)]),vpt,vpm,vpf,vpb]) [6] Tryd.func105 rfl rfl rfl rfl fun Q hret hnor=>?_
 refine w_q rfl rfl fun K1 k1=>?_
 refine Ae rfl (Eb (v:=(.agg #[.int .i64 at_,iV (s:Int)])) rfl fun k2=>?_)
 refine Bb (a:=(⟨at_,(s:Int)⟩:Place)) rs0 fun ρ2 l2 r2=>?_
 replace rs0:=Asa l2 rs0
 replace rpt:=Arv l2 rpt
 replace rpm:=Arv l2 rpm
 replace rpf:=Arv l2 rpf
 replace rpb:=Arv l2 rpb
 replace hg:=Glob.mono l2 hg
 refine l_A (.bool (false)) rfl rfl ?_
 apply Ac
 apply k1
 refine Ai fun K3 k3=>?_
 refine w_q rfl rfl fun K4 k4=>?_
 refine Ak rfl (Ay Place.f_at_ Tryd.underlying169 rfl rfl ty3 (by decide) rfl r2) fun v5 r5=>?_
 have ⟨g6a,g6b⟩:=At.rng r5
 refine Aa rfl (Bc ty3 rfl r5) ?_
 refine Aa rfl (Da (p:=at_) (q:=0) rfl rfl) ?_
 refine l_M (.bool (decide (at_ < 0))) rfl rfl ?_
 refine Cn (decide (at_ < 0)) (fun b7=>?_) (fun b7=>?_)
 ·have q7:=of_decide_eq_true b7
  refine Ap (Bl rfl rfl rfl b7) ?_
  refine Ap (Bl rfl rfl rfl b7) ?_
  refine Ap (Bl rfl rfl rfl b7) ?_
  refine Ap (Bl rfl rfl rfl b7) ?_
  refine Ap (Bl rfl rfl rfl b7) ?_
  refine Aa rfl (Bt rfl b7 (v:=(.bool (true))) rfl) ?_
  refine l_M (.bool (true)) rfl rfl ?_
  refine Ap (Bl rfl rfl rfl rfl) ?_
  refine Ap (Bl rfl rfl rfl rfl) ?_
  refine Ap (Bl rfl rfl rfl rfl) ?_
  refine Aa rfl (Bt rfl rfl (v:=(.bool (true))) rfl) ?_
  apply Ac
  apply k4
  refine Co rfl rfl ?_
  refine w_q rfl rfl fun K8 k8=>?_
  refine Ak rfl (Ay Place.f_sets Tryd.underlying169 rfl rfl Jg (by decide) rfl r2) fun v9 r9=>?_
  have ⟨g10a,g10b⟩:=At.rng r9
  refine Aa rfl (Bc Jg rfl r9) ?_
  refine Ae rfl (Bn (vs:=[(iV ((s:Int)))]) (v:=(.bool (Dz (Bw (Av s))))) (Ul (by omega)) Tryd.func74 rfl rfl ⟨rfl,trivial⟩ ?_)
  refine l_A (.bool (Dz (Bw (Av s)))) rfl rfl ?_
  apply Ac
  apply k8
  refine Aj (Arw l2) ?_
  refine Aq ?_
  refine hret _ _ _ ?_
  refine ⟨rfl,es,ck,Eq.trans (b:=(.bool (Dz (Bw (Av s))))) rfl ?_,rfl,hM⟩
  rw [ends_end (.inl q7)]
 have q7:=of_decide_eq_false b7
 refine Ak (Ar rfl rfl rfl b7) (Ay Place.f_at_ Tryd.underlying169 rfl rfl ty3 (by decide) rfl r2) fun v11 r11=>?_
 have ⟨g12a,g12b⟩:=At.rng r11
 refine Aa (Ar rfl rfl rfl b7) (Bc ty3 rfl r11) ?_
 refine Ak (Ar rfl rfl rfl b7) (Ax ty49 rfl rpt) fun v13 r13=>?_
 have g14:=Val.len r13
 refine Aa (Ar rfl rfl rfl b7) (Ce (el:=94) Tryd.underlying49 rfl r13) ?_
 refine Aa (Ar rfl rfl rfl b7) (Uv (p:=at_) (q:=((tree.length:Nat):Int)) rfl rfl) ?_
 refine Aa rfl (Bm rfl b7 (v:=(.bool (decide (at_ ≥ ((tree.length:Nat):Int))))) rfl) ?_
 refine l_M (.bool (decide (at_ ≥ ((tree.length:Nat):Int)))) rfl rfl ?_
 refine Cn (decide (at_ ≥ ((tree.length:Nat):Int))) (fun b15=>?_) (fun b15=>?_)
 ·have q15:=of_decide_eq_true b15
  refine Ap (Bl rfl rfl rfl b15) ?_
  refine Ap (Bl rfl rfl rfl b15) ?_
  refine Ap (Bl rfl rfl rfl b15) ?_
  refine Aa rfl (Bt rfl b15 (v:=(.bool (true))) rfl) ?_
  apply Ac
  apply k4
  refine Co rfl rfl ?_
  refine w_q rfl rfl fun K16 k16=>?_
  refine Ak rfl (Ay Place.f_sets Tryd.underlying169 rfl rfl Jg (by decide) rfl r2) fun v17 r17=>?_
  have ⟨g18a,g18b⟩:=At.rng r17
  refine Aa rfl (Bc Jg rfl r17) ?_
  refine Ae rfl (Bn (vs:=[(iV ((s:Int)))]) (v:=(.bool (Dz (Bw (Av s))))) (Ul (by omega)) Tryd.func74 rfl rfl ⟨rfl,trivial⟩ ?_)
  refine l_A (.bool (Dz (Bw (Av s)))) rfl rfl ?_
  apply Ac
  apply k16
  refine Aj (Arw l2) ?_
  refine Aq ?_
  refine hret _ _ _ ?_
  refine ⟨rfl,es,ck,Eq.trans (b:=(.bool (Dz (Bw (Av s))))) rfl ?_,rfl,hM⟩
  rw [ends_end (.inr (.inl q15))]
 have q15:=of_decide_eq_false b15
 refine Ak (Ar rfl rfl rfl b15) (Ay Place.f_sets Tryd.underlying169 rfl rfl Jg (by decide) rfl r2) fun v19 r19=>?_
 have ⟨g20a,g20b⟩:=At.rng r19
 refine Aa (Ar rfl rfl rfl b15) (Bc Jg rfl r19) ?_
 refine Aa (Ar rfl rfl rfl b15) (Ek (p:=(s:Int)) (q:=0) rfl rfl) ?_
 refine Aa rfl (Bm rfl b15 (v:=(.bool ((s:Int) == 0))) rfl) ?_
 apply Ac
 apply k4
 refine As (t:=(s:Int) == 0) rfl (fun b21=>?_) (fun b21=>?_)
 ·have q21:=Jo b21
  refine w_q rfl rfl fun K22 k22=>?_
  refine Ak rfl (Ay Place.f_sets Tryd.underlying169 rfl rfl Jg (by decide) rfl r2) fun v23 r23=>?_
  have ⟨g24a,g24b⟩:=At.rng r23
  refine Aa rfl (Bc Jg rfl r23) ?_
  refine Ae rfl (Bn (vs:=[(iV ((s:Int)))]) (v:=(.bool (Dz (Bw (Av s))))) (Ul (by omega)) Tryd.func74 rfl rfl ⟨rfl,trivial⟩ ?_)
  refine l_A (.bool (Dz (Bw (Av s)))) rfl rfl ?_
  apply Ac
  apply k22
  refine Aj (Arw l2) ?_
  refine Aq ?_
  refine hret _ _ _ ?_
  refine ⟨rfl,es,ck,Eq.trans (b:=(.bool (Dz (Bw (Av s))))) rfl ?_,rfl,hM⟩
  rw [ends_end (.inr (.inr (by rw [show s = 0 by omega]; rfl)))]
 have q21:=La b21
 refine Al ?_
 apply k3
 refine Ai fun K25 k25=>?_
 refine w_q rfl rfl fun K26 k26=>?_
 refine Aa rfl (Sy ty166 rfl rpm) ?_
 refine Ak rfl (Ax ty169 rfl r2) fun v28 r28=>?_
 obtain ⟨e29_,⟨i29_1a,i29_1b⟩,⟨i29_2a,i29_2b⟩⟩:=Place.open_ r28
 have e29_c:v28.cells = [(iV (at_)),(iV ((s:Int)))].toArray:=by rw [e29_]; rfl
 refine Ae rfl (Xm (i:=0) (kt:=169) (et:=4) (a:=at_) (b:=(s:Int)) Tryd.underlying166 key169 zr4 hM rfl (rfl.trans e29_) rfl ?_ fun w30 hw30=>?_)
 ·refine Aa rfl (Ah (v:=(.tuple #[(.bool (false)),(.bool (false))])) rfl) ?_
  refine Aa rfl (Bk (vs:=#[(.bool (false)),(.bool (false))]) rfl (v:=(.bool (false))) rfl) ?_
  refine Aa rfl (Bk (vs:=#[(.bool (false)),(.bool (false))]) rfl (v:=(.bool (false))) rfl) ?_
  refine l_A (.bool (false)) rfl rfl ?_
  refine l_A (.bool (false)) rfl rfl ?_
  apply Ac
  apply k26
  refine w_q rfl rfl fun K31 k31=>?_
  refine l_M (.bool (false)) rfl rfl ?_
  apply Ac
  apply k31
  refine Cg rfl rfl ?_
  refine Al ?_
  apply k25
  refine w_q rfl rfl fun K32 k32=>?_
  refine Ak rfl (Ax ty49 rfl rpt) fun v33 r33=>?_
  refine Ak rfl (Ay Place.f_at_ Tryd.underlying169 rfl rfl ty3 (by decide) rfl r2) fun v34 r34=>?_
  have ⟨g35a,g35b⟩:=At.rng r34
  refine Aa rfl (Bc ty3 rfl r34) ?_
  obtain ⟨a37,ha37⟩:=Ed (xs:=tree) (i:=(at_).toNat) (by omega)
  have nt_a37:=ok2.test _ _ ha37
  have nf_a37:=ok2.found _ _ ha37
  have nn_a37:=ok2.not _ _ ha37
  have hm_a37_true:=Er (l:=l) (s:=s) (r:=(⟨a37.test,true⟩:Found))
  have hm_a37_false:=Er (l:=l) (s:=s) (r:=(⟨a37.test,false⟩:Found))
  refine Ak rfl (Ci ((at_).toNat) Tryd.underlying49 ty94 rfl r33 (q:=at_) rfl (by omega) ha37) fun v36 r36=>?_
  refine Ak rfl (Ax ty94 rfl r36) fun v38 r38=>?_
  refine Ae rfl (Ct Aes fun k39=>?_)
  refine Cx rfl (Du (v:=v38) (a:=a37) (c:=Aly) ty94 rfl rfl r38 rfl ?_)
  refine Bb (a:=a37) r38 fun ρ40 l40 r40=>?_
  replace rpt:=Arv l40 rpt
  replace rpm:=Arv l40 rpm
  replace rpf:=Arv l40 rpf
  replace rpb:=Arv l40 rpb
  replace hg:=Glob.mono l40 hg
  replace r2:=Arv l40 r2
  replace r33:=Asa l40 r33
  replace r34:=Arv l40 r34
  replace r36:=Arv l40 r36
  replace r38:=Asa l40 r38
  apply Ac
  apply k32
  refine Ai fun K41 k41=>?_
  refine Dc [0,1,2,3,4,5,6,7,8,9,10,11,12,13,14,15,16,17,18,19,20,21,22,23,24] (by kernel_rfl) rfl rfl ?_
  refine Be (i:=0) [o1,o0,o0,o0,o0,o0,o0,o0,o0,o0,o0,o0,o0,o0,o0,o0,o0,o0,o0,o0,o0,o0,o0,o0,o0] rfl (by kernel_rfl) rfl Ary rfl (Lb ty167 rfl rpf) ?_
  refine Cd (i:=1) [o1,o1,o0,o0,o0,o0,o0,o0,o0,o0,o0,o0,o0,o0,o0,o0,o0,o0,o0,o0,o0,o0,o0,o0,o0] rfl (by kernel_rfl) rfl Ary rfl (Ay FNode.f_found Tryd.underlying94 rfl rfl ty3 (by decide) rfl r40) fun v43 r43=>?_
  have ⟨g44a,g44b⟩:=At.rng r43
  refine Be (i:=2) [o1,o1,o1,o0,o0,o0,o0,o0,o0,o0,o0,o0,o0,o0,o0,o0,o0,o0,o0,o0,o0,o0,o0,o0,o0] rfl (by kernel_rfl) rfl Ary rfl (Bc ty3 rfl r43) ?_
  refine Cd (i:=3) [o1,o1,o1,o1,o0,o0,o0,o0,o0,o0,o0,o0,o0,o0,o0,o0,o0,o0,o0,o0,o0,o0,o0,o0,o0] rfl (by kernel_rfl) rfl Ary rfl (Ax Sd rfl rpb) fun v45 r45=>?_
  replace r45:=Io.1 r45
  refine Cd (i:=4) [o1,o1,o1,o1,o1,o0,o0,o0,o0,o0,o0,o0,o0,o0,o0,o0,o0,o0,o0,o0,o0,o0,o0,o0,o0] rfl (by kernel_rfl) rfl Ary rfl (Ay Place.f_sets Tryd.underlying169 rfl rfl Jg (by decide) rfl r2) fun v46 r46=>?_
  have ⟨g47a,g47b⟩:=At.rng r46
  refine Be (i:=5) [o1,o1,o1,o1,o1,o1,o0,o0,o0,o0,o0,o0,o0,o0,o0,o0,o0,o0,o0,o0,o0,o0,o0,o0,o0] rfl (by kernel_rfl) rfl Ary rfl (Bc Jg rfl r46) ?_
  refine Hl (i:=6) [o1,o1,o1,o1,o1,o1,o1,o0,o0,o0,o0,o0,o0,o0,o0,o0,o0,o0,o0,o0,o0,o0,o0,o0,o0] rfl (by kernel_rfl) rfl Ary rfl (Ay FNode.f_test Tryd.underlying94 rfl rfl ty3 (by decide) rfl r40) fun v48 r48=>?_
  have ⟨g49a,g49b⟩:=At.rng r48
  refine Bg (i:=7) [o1,o1,o1,o1,o1,o1,o1,o1,o0,o0,o0,o0,o0,o0,o0,o0,o0,o0,o0,o0,o0,o0,o0,o0,o0] rfl (by kernel_rfl) rfl Ary rfl (Bc ty3 rfl r48) ?_
  refine Dj (i:=8) [o1,o1,o1,o1,o1,o1,o1,o1,o1,o0,o0,o0,o0,o0,o0,o0,o0,o0,o0,o0,o0,o0,o0,o0,o0] rfl (by kernel_rfl) rfl rfl (Bn (vs:=[v45,(iV ((s:Int))),(iV (a37.test)),(.bool (true))]) (v:=(iV (((Bf (Au l (Av s) ⟨a37.test,true⟩):Nat):Int)))) (Px hg r45 hl (by omega) (by omega)) Tryd.func76 rfl rfl ⟨rfl,rfl,rfl,rfl,trivial⟩ ⟨Ary,?_⟩)
  have r50:Val ρ40 (.agg #[(iV (a37.found)),(iV (((Bf (Au l (Av s) ⟨a37.test,true⟩):Nat):Int)))]) (⟨a37.found,((Bf (Au l (Av s) ⟨a37.test,true⟩):Nat):Int)⟩:Place):=Place.shut (x:=(⟨a37.found,((Bf (Au l (Av s) ⟨a37.test,true⟩):Nat):Int)⟩:Place)) (show I64 (a37.found) from by constructor <;> omega) (show I64 (((Bf (Au l (Av s) ⟨a37.test,true⟩):Nat):Int)) from by constructor <;> omega)
  refine Bg (i:=9) [o1,o1,o1,o1,o1,o1,o1,o1,o1,o1,o0,o0,o0,o0,o0,o0,o0,o0,o0,o0,o0,o0,o0,o0,o0] rfl (by kernel_rfl) rfl Ary rfl (Dm (ns:=[1,1]) (vs:=[(0,(iV (a37.found))),(1,(iV (((Bf (Au l (Av s) ⟨a37.test,true⟩):Nat):Int))))]) (zc:=zc169) (cs:=[(iV (a37.found)),(iV (((Bf (Au l (Av s) ⟨a37.test,true⟩):Nat):Int)))]) Tryd.underlying169 zr169 rfl ⟨⟨_,Ab Tryd.typeInfo3,rfl⟩,⟨_,Ab Tryd.typeInfo110,rfl⟩,trivial⟩ (EvB.map ⟨⟨rfl,rfl⟩,⟨rfl,rfl⟩,trivial⟩) ((Bd (cs:=[(iV (a37.found))]) rfl rfl (Nat.le_of_ble_eq_true rfl)).trans ((Bd (cs:=[(iV (((Bf (Au l (Av s) ⟨a37.test,true⟩):Nat):Int)))]) rfl rfl (Nat.le_of_ble_eq_true rfl)).trans rfl))) ?_
  refine Dj (i:=10) [o1,o1,o1,o1,o1,o1,o1,o1,o1,o1,o1,o0,o0,o0,o0,o0,o0,o0,o0,o0,o0,o0,o0,o0,o0] rfl (by kernel_rfl) rfl rfl (Si (vs:=[(.agg #[(iV (a37.found)),(iV (((Bf (Au l (Av s) ⟨a37.test,true⟩):Nat):Int)))])]) (caps:=[vpt,vpm,vpf,vpb]) rfl (ih (if a37.found < 0 then 0 else tree.length - (a37.found).toNat) (by split <;> omega) (at_:=a37.found) (s:=(Bf (Au l (Av s) ⟨a37.test,true⟩))) (es:=es) (ck:=ck) hg (by omega) (by split <;> omega) rpt rpm rpf rpb Er hM) Tryd.func105 rfl rfl ⟨rfl,trivial⟩ fun w51 ρ51 σ51 hc51=>?_)
  obtain ⟨hr51,es51,ck51,hw51,hs51,MM51⟩:=hc51
  replace hr51:=hr51.symm; subst hr51; subst hs51
  rw [Hj] at hw51
  subst hw51
  refine ⟨Ary,?_⟩
  refine Bg (i:=11) [o1,o1,o1,o1,o1,o1,o1,o1,o1,o1,o1,o1,o0,o0,o0,o0,o0,o0,o0,o0,o0,o0,o0,o0,o0] rfl (by kernel_rfl) rfl Ary rfl (Ah (v:=(.bool (endsF l tree a37.found ((Au l (Av s) ⟨a37.test,true⟩))))) rfl) ?_
  refine Akl (endsF l tree a37.found ((Au l (Av s) ⟨a37.test,true⟩))) (fun b52=>?_) (fun b52=>?_)
  ·refine Be (i:=12) [o1,o1,o1,o1,o1,o1,o1,o1,o1,o1,o1,o1,o1,o0,o0,o0,o0,o0,o0,o0,o0,o0,o0,o0,o0] rfl (by kernel_rfl) rfl Ary (Ar rfl rfl rfl b52) (Lb ty167 rfl rpf) ?_
   refine Cd (i:=13) [o1,o1,o1,o1,o1,o1,o1,o1,o1,o1,o1,o1,o1,o1,o0,o0,o0,o0,o0,o0,o0,o0,o0,o0,o0] rfl (by kernel_rfl) rfl Ary (Ar rfl rfl rfl b52) (Ay FNode.f_not Tryd.underlying94 rfl rfl ty3 (by decide) rfl r40) fun v54 r54=>?_
   have ⟨g55a,g55b⟩:=At.rng r54
   refine Be (i:=14) [o1,o1,o1,o1,o1,o1,o1,o1,o1,o1,o1,o1,o1,o1,o1,o0,o0,o0,o0,o0,o0,o0,o0,o0,o0] rfl (by kernel_rfl) rfl Ary (Ar rfl rfl rfl b52) (Bc ty3 rfl r54) ?_
   refine Cd (i:=15) [o1,o1,o1,o1,o1,o1,o1,o1,o1,o1,o1,o1,o1,o1,o1,o1,o0,o0,o0,o0,o0,o0,o0,o0,o0] rfl (by kernel_rfl) rfl Ary (Ar rfl rfl rfl b52) (Ax Sd rfl rpb) fun v56 r56=>?_
   replace r56:=Io.1 r56
   refine Cd (i:=16) [o1,o1,o1,o1,o1,o1,o1,o1,o1,o1,o1,o1,o1,o1,o1,o1,o1,o0,o0,o0,o0,o0,o0,o0,o0] rfl (by kernel_rfl) rfl Ary (Ar rfl rfl rfl b52) (Ay Place.f_sets Tryd.underlying169 rfl rfl Jg (by decide) rfl r2) fun v57 r57=>?_
   have ⟨g58a,g58b⟩:=At.rng r57
   refine Be (i:=17) [o1,o1,o1,o1,o1,o1,o1,o1,o1,o1,o1,o1,o1,o1,o1,o1,o1,o1,o0,o0,o0,o0,o0,o0,o0] rfl (by kernel_rfl) rfl Ary (Ar rfl rfl rfl b52) (Bc Jg rfl r57) ?_
   refine Hl (i:=18) [o1,o1,o1,o1,o1,o1,o1,o1,o1,o1,o1,o1,o1,o1,o1,o1,o1,o1,o1,o0,o0,o0,o0,o0,o0] rfl (by kernel_rfl) rfl Ary (Ar rfl rfl rfl b52) (Ay FNode.f_test Tryd.underlying94 rfl rfl ty3 (by decide) rfl r40) fun v59 r59=>?_
   have ⟨g60a,g60b⟩:=At.rng r59
   refine Bg (i:=19) [o1,o1,o1,o1,o1,o1,o1,o1,o1,o1,o1,o1,o1,o1,o1,o1,o1,o1,o1,o1,o0,o0,o0,o0,o0] rfl (by kernel_rfl) rfl Ary (Ar rfl rfl rfl b52) (Bc ty3 rfl r59) ?_
   refine Dj (i:=20) [o1,o1,o1,o1,o1,o1,o1,o1,o1,o1,o1,o1,o1,o1,o1,o1,o1,o1,o1,o1,o1,o0,o0,o0,o0] rfl (by kernel_rfl) rfl (Ar rfl rfl rfl b52) (Bn (vs:=[v56,(iV ((s:Int))),(iV (a37.test)),(.bool (false))]) (v:=(iV (((Bf (Au l (Av s) ⟨a37.test,false⟩):Nat):Int)))) (Px hg r56 hl (by omega) (by omega)) Tryd.func76 rfl rfl ⟨rfl,rfl,rfl,rfl,trivial⟩ ⟨Ary,?_⟩)
   have r61:Val ρ40 (.agg #[(iV (a37.not)),(iV (((Bf (Au l (Av s) ⟨a37.test,false⟩):Nat):Int)))]) (⟨a37.not,((Bf (Au l (Av s) ⟨a37.test,false⟩):Nat):Int)⟩:Place):=Place.shut (x:=(⟨a37.not,((Bf (Au l (Av s) ⟨a37.test,false⟩):Nat):Int)⟩:Place)) (show I64 (a37.not) from by constructor <;> omega) (show I64 (((Bf (Au l (Av s) ⟨a37.test,false⟩):Nat):Int)) from by constructor <;> omega)
   refine Bg (i:=21) [o1,o1,o1,o1,o1,o1,o1,o1,o1,o1,o1,o1,o1,o1,o1,o1,o1,o1,o1,o1,o1,o1,o0,o0,o0] rfl (by kernel_rfl) rfl Ary (Ar rfl rfl rfl b52) (Dm (ns:=[1,1]) (vs:=[(0,(iV (a37.not))),(1,(iV (((Bf (Au l (Av s) ⟨a37.test,false⟩):Nat):Int))))]) (zc:=zc169) (cs:=[(iV (a37.not)),(iV (((Bf (Au l (Av s) ⟨a37.test,false⟩):Nat):Int)))]) Tryd.underlying169 zr169 rfl ⟨⟨_,Ab Tryd.typeInfo3,rfl⟩,⟨_,Ab Tryd.typeInfo110,rfl⟩,trivial⟩ (EvB.map ⟨⟨rfl,rfl⟩,⟨rfl,rfl⟩,trivial⟩) ((Bd (cs:=[(iV (a37.not))]) rfl rfl (Nat.le_of_ble_eq_true rfl)).trans ((Bd (cs:=[(iV (((Bf (Au l (Av s) ⟨a37.test,false⟩):Nat):Int)))]) rfl rfl (Nat.le_of_ble_eq_true rfl)).trans rfl))) ?_
   refine Dj (i:=22) [o1,o1,o1,o1,o1,o1,o1,o1,o1,o1,o1,o1,o1,o1,o1,o1,o1,o1,o1,o1,o1,o1,o1,o0,o0] rfl (by kernel_rfl) rfl (Ar rfl rfl rfl b52) (Si (vs:=[(.agg #[(iV (a37.not)),(iV (((Bf (Au l (Av s) ⟨a37.test,false⟩):Nat):Int)))])]) (caps:=[vpt,vpm,vpf,vpb]) rfl (ih (if a37.not < 0 then 0 else tree.length - (a37.not).toNat) (by split <;> omega) (at_:=a37.not) (s:=(Bf (Au l (Av s) ⟨a37.test,false⟩))) (es:=es51) (ck:=ck51) hg (by omega) (by split <;> omega) rpt rpm rpf rpb Er MM51) Tryd.func105 rfl rfl ⟨rfl,trivial⟩ fun w62 ρ62 σ62 hc62=>?_)
   obtain ⟨hr62,es62,ck62,hw62,hs62,MM62⟩:=hc62
   replace hr62:=hr62.symm; subst hr62; subst hs62
   rw [Hj] at hw62
   subst hw62
   refine ⟨Ary,?_⟩
   refine Bg (i:=23) [o1,o1,o1,o1,o1,o1,o1,o1,o1,o1,o1,o1,o1,o1,o1,o1,o1,o1,o1,o1,o1,o1,o1,o1,o0] rfl (by kernel_rfl) rfl Ary rfl (Bt rfl b52 (v:=(.bool (endsF l tree a37.not ((Au l (Av s) ⟨a37.test,false⟩))))) rfl) ?_
   refine Bg (i:=24) [o1,o1,o1,o1,o1,o1,o1,o1,o1,o1,o1,o1,o1,o1,o1,o1,o1,o1,o1,o1,o1,o1,o1,o1,o1] rfl (by kernel_rfl) rfl Ary rfl (Cp (v:=(.bool (endsF l tree a37.not ((Au l (Av s) ⟨a37.test,false⟩))))) rfl) ?_
   refine Ec rfl ?_
   apply k41
   refine w_q rfl rfl fun K63 k63=>?_
   refine Aa rfl (Sy ty166 rfl rpm) ?_
   refine Ak rfl (Ax ty169 rfl r2) fun v65 r65=>?_
   refine l_M (.bool (endsF l tree a37.not ((Au l (Av s) ⟨a37.test,false⟩)))) rfl rfl ?_
   obtain ⟨e66_,⟨i66_1a,i66_1b⟩,⟨i66_2a,i66_2b⟩⟩:=Place.open_ r65
   have e66_c:v65.cells = [(iV (at_)),(iV ((s:Int)))].toArray:=by rw [e66_]; rfl
   refine Cx rfl (Afz (i:=0) (kt:=169) (et:=4) (a:=at_) (b:=(s:Int)) (w:=(.bool (endsF l tree a37.not ((Au l (Av s) ⟨a37.test,false⟩))))) Tryd.underlying166 key169 MM62 ⟨at_,s,rfl,rfl,by rw [ends_step ok2 (fun h=>h.elim q7 fun h=>h.elim q15 fun h=>q21 (by have h9:=Aaz hs; rw [h] at h9; rw [← h9]; rfl)) ha37,b52,Bool.true_and]⟩ rfl (rfl.trans e66_) rfl rfl fun es67 ck67 MM67=>?_)
   apply Ac
   apply k63
   refine w_q rfl rfl fun K68 k68=>?_
   refine l_M (.bool (endsF l tree a37.not ((Au l (Av s) ⟨a37.test,false⟩)))) rfl rfl ?_
   refine l_A (.bool (endsF l tree a37.not ((Au l (Av s) ⟨a37.test,false⟩)))) rfl rfl ?_
   apply Ac
   apply k68
   refine Aj (Arw (Arz l2 l40)) ?_
   refine Aq ?_
   refine hret _ _ _ ?_
   refine ⟨rfl,es67,ck67,Eq.trans (b:=(.bool (endsF l tree a37.not ((Au l (Av s) ⟨a37.test,false⟩))))) rfl ?_,rfl,MM67⟩
   rw [ends_step ok2 (fun h=>h.elim q7 fun h=>h.elim q15 fun h=>q21 (by have h9:=Aaz hs; rw [h] at h9; rw [← h9]; rfl)) ha37,b52,Bool.true_and]
  refine Ua (i:=12) [o1,o1,o1,o1,o1,o1,o1,o1,o1,o1,o1,o1,o1,o0,o0,o0,o0,o0,o0,o0,o0,o0,o0,o0,o0] rfl (by kernel_rfl) rfl Ary (Bl rfl rfl rfl b52) ?_
  refine Ua (i:=13) [o1,o1,o1,o1,o1,o1,o1,o1,o1,o1,o1,o1,o1,o1,o0,o0,o0,o0,o0,o0,o0,o0,o0,o0,o0] rfl (by kernel_rfl) rfl Ary (Bl rfl rfl rfl b52) ?_
  refine Ua (i:=14) [o1,o1,o1,o1,o1,o1,o1,o1,o1,o1,o1,o1,o1,o1,o1,o0,o0,o0,o0,o0,o0,o0,o0,o0,o0] rfl (by kernel_rfl) rfl Ary (Bl rfl rfl rfl b52) ?_
  refine Ua (i:=15) [o1,o1,o1,o1,o1,o1,o1,o1,o1,o1,o1,o1,o1,o1,o1,o1,o0,o0,o0,o0,o0,o0,o0,o0,o0] rfl (by kernel_rfl) rfl Ary (Bl rfl rfl rfl b52) ?_
  refine Ua (i:=16) [o1,o1,o1,o1,o1,o1,o1,o1,o1,o1,o1,o1,o1,o1,o1,o1,o1,o0,o0,o0,o0,o0,o0,o0,o0] rfl (by kernel_rfl) rfl Ary (Bl rfl rfl rfl b52) ?_
  refine Ua (i:=17) [o1,o1,o1,o1,o1,o1,o1,o1,o1,o1,o1,o1,o1,o1,o1,o1,o1,o1,o0,o0,o0,o0,o0,o0,o0] rfl (by kernel_rfl) rfl Ary (Bl rfl rfl rfl b52) ?_
  refine Xl (i:=18) [o1,o1,o1,o1,o1,o1,o1,o1,o1,o1,o1,o1,o1,o1,o1,o1,o1,o1,o1,o0,o0,o0,o0,o0,o0] rfl (by kernel_rfl) rfl Ary (Bl rfl rfl rfl b52) ?_
  refine Xl (i:=19) [o1,o1,o1,o1,o1,o1,o1,o1,o1,o1,o1,o1,o1,o1,o1,o1,o1,o1,o1,o1,o0,o0,o0,o0,o0] rfl (by kernel_rfl) rfl Ary (Bl rfl rfl rfl b52) ?_
  refine Xl (i:=20) [o1,o1,o1,o1,o1,o1,o1,o1,o1,o1,o1,o1,o1,o1,o1,o1,o1,o1,o1,o1,o1,o0,o0,o0,o0] rfl (by kernel_rfl) rfl Ary (Bl rfl rfl rfl b52) ?_
  refine Xl (i:=21) [o1,o1,o1,o1,o1,o1,o1,o1,o1,o1,o1,o1,o1,o1,o1,o1,o1,o1,o1,o1,o1,o1,o0,o0,o0] rfl (by kernel_rfl) rfl Ary (Bl rfl rfl rfl b52) ?_
  refine Xl (i:=22) [o1,o1,o1,o1,o1,o1,o1,o1,o1,o1,o1,o1,o1,o1,o1,o1,o1,o1,o1,o1,o1,o1,o1,o0,o0] rfl (by kernel_rfl) rfl Ary (Bl rfl rfl rfl b52) ?_
  refine Bg (i:=23) [o1,o1,o1,o1,o1,o1,o1,o1,o1,o1,o1,o1,o1,o1,o1,o1,o1,o1,o1,o1,o1,o1,o1,o1,o0] rfl (by kernel_rfl) rfl Ary rfl (Bm rfl b52 (v:=(.bool (false))) rfl) ?_
  refine Bg (i:=24) [o1,o1,o1,o1,o1,o1,o1,o1,o1,o1,o1,o1,o1,o1,o1,o1,o1,o1,o1,o1,o1,o1,o1,o1,o1] rfl (by kernel_rfl) rfl Ary rfl (Cp (v:=(.bool (false))) rfl) ?_
  refine Ec rfl ?_
  apply k41
  refine w_q rfl rfl fun K69 k69=>?_
  refine Aa rfl (Sy ty166 rfl rpm) ?_
  refine Ak rfl (Ax ty169 rfl r2) fun v71 r71=>?_
  refine l_M (.bool (false)) rfl rfl ?_
  obtain ⟨e72_,⟨i72_1a,i72_1b⟩,⟨i72_2a,i72_2b⟩⟩:=Place.open_ r71
  have e72_c:v71.cells = [(iV (at_)),(iV ((s:Int)))].toArray:=by rw [e72_]; rfl
  refine Cx rfl (Afz (i:=0) (kt:=169) (et:=4) (a:=at_) (b:=(s:Int)) (w:=(.bool (false))) Tryd.underlying166 key169 MM51 ⟨at_,s,rfl,rfl,by rw [ends_step ok2 (fun h=>h.elim q7 fun h=>h.elim q15 fun h=>q21 (by have h9:=Aaz hs; rw [h] at h9; rw [← h9]; rfl)) ha37,b52,Bool.false_and]⟩ rfl (rfl.trans e72_) rfl rfl fun es73 ck73 MM73=>?_)
  apply Ac
  apply k69
  refine w_q rfl rfl fun K74 k74=>?_
  refine l_M (.bool (false)) rfl rfl ?_
  refine l_A (.bool (false)) rfl rfl ?_
  apply Ac
  apply k74
  refine Aj (Arw (Arz l2 l40)) ?_
  refine Aq ?_
  refine hret _ _ _ ?_
  refine ⟨rfl,es73,ck73,Eq.trans (b:=(.bool (false))) rfl ?_,rfl,MM73⟩
  rw [ends_step ok2 (fun h=>h.elim q7 fun h=>h.elim q15 fun h=>q21 (by have h9:=Aaz hs; rw [h] at h9; rw [← h9]; rfl)) ha37,b52,Bool.false_and]
 obtain rfl:=placeV_get hw30
 refine l_M (.tuple #[(.bool (endsF l tree at_ (Av s))),(.bool (true))]) rfl rfl ?_
 refine Aa rfl (Bk (vs:=#[(.bool (endsF l tree at_ (Av s))),(.bool (true))]) rfl (v:=(.bool (endsF l tree at_ (Av s)))) rfl) ?_
 refine Aa rfl (Bk (vs:=#[(.bool (endsF l tree at_ (Av s))),(.bool (true))]) rfl (v:=(.bool (true))) rfl) ?_
 refine l_A (.bool (endsF l tree at_ (Av s))) rfl rfl ?_
 refine l_A (.bool (true)) rfl rfl ?_
 apply Ac
 apply k26
 refine w_q rfl rfl fun K75 k75=>?_
 refine l_M (.bool (true)) rfl rfl ?_
 apply Ac
 apply k75
 refine Co rfl rfl ?_
 refine w_q rfl rfl fun K76 k76=>?_
 refine l_M (.bool (endsF l tree at_ (Av s))) rfl rfl ?_
 refine l_A (.bool (endsF l tree at_ (Av s))) rfl rfl ?_
 apply Ac
 apply k76
 refine Aj (Arw l2) ?_
 refine Aq ?_
 refine hret _ _ _ ?_
 refine ⟨rfl,es,ck,Eq.trans (b:=(.bool (endsF l tree at_ (Av s)))) rfl ?_,rfl,hM⟩
 rfl
set_option maxHeartbeats 600000 in
set_option maxRecDepth 100000 in
theorem c_Settles {mn:Bool} {X:Frame→List Frame→Ro→Own→Cy→Prop} {ρ:Ro} {σ:Own} {l:Lab} {vl vr vt:Value} {rs:List Found} {tree:List FNode} (hg:Glob ρ) (rl:Val ρ vl l) (rr:Val ρ vr rs) (rt:Val ρ vt tree) (htl:tree.length ≤ 1000000):CallsH (CX mn X) 52 #[vl,vr,vt] ρ σ (fun w ρ' σ'=>ρ' = ρ∧σ' = σ∧w = (.tuple #[(.bool (setlB l rs tree)),(iV (setlF l rs tree))])):=by
 refine Bh (n:=65) (args:=[vl,vr,vt]) [6,7] Tryd.func52 rfl rfl rfl rfl fun Q hret hnor=>?_
 refine w_q rfl rfl fun K1 k1=>?_
 refine Ae rfl (Eb (v:=vl) rfl fun k2=>?_)
 refine Bb (a:=l) rl fun ρ2 l2 r2=>?_
 replace rl:=Asa l2 rl
 replace rr:=Asa l2 rr
 replace rt:=Asa l2 rt
 replace hg:=Glob.mono l2 hg
 refine Ae rfl (Eb (v:=vt) rfl fun k3=>?_)
 refine Bb (a:=tree) rt fun ρ3 l3 r3=>?_
 replace rl:=Asa l3 rl
 replace rr:=Asa l3 rr
 replace rt:=Asa l3 rt
 replace hg:=Glob.mono l3 hg
 replace r2:=Arv l3 r2
 refine l_A (.bool (false)) rfl rfl ?_
 refine l_A (iV (0)) rfl rfl ?_
 apply Ac
 apply k1
 refine w_q rfl rfl fun K4 k4=>?_
 refine Ak rfl (Ax Aaj rfl r2) fun v5 r5=>?_
 refine l_M vr rfl rfl ?_
 refine Ae rfl (Cm (vs:=[v5,vr]) (Acx hg r5 rr) Tryd.func67 rfl rfl ⟨rfl,rfl,trivial⟩ fun w6 ρ6 σ6 hc6=>?_)
 obtain ⟨l6,hc6⟩:=hc6
 replace rr:=Asa l6 rr
 replace hg:=Glob.mono l6 hg
 replace r2:=Arv l6 r2
 replace r3:=Arv l6 r3
 replace r5:=Asa l6 r5
 rcases hc6 with ⟨hC6,rfl,rfl⟩ | ⟨hC6,bp6,rm6,rfl,rfl,rb6⟩
 ·refine Aa rfl (Ah (v:=(.tuple #[(.pointer none),(iV (0)),(iV ((Cw l rs)))])) rfl) ?_
  refine Aa rfl (Bk (vs:=#[(.pointer none),(iV (0)),(iV ((Cw l rs)))]) rfl (v:=(.pointer none)) rfl) ?_
  refine Aa rfl (Bk (vs:=#[(.pointer none),(iV (0)),(iV ((Cw l rs)))]) rfl (v:=(iV (0))) rfl) ?_
  refine Aa rfl (Bk (vs:=#[(.pointer none),(iV (0)),(iV ((Cw l rs)))]) rfl (v:=(iV ((Cw l rs)))) rfl) ?_
  refine Ae rfl (Ct Amo fun k7=>?_)
  refine Cx rfl (Cz (j:=0) (v:=(.pointer none)) (c:=Amq) ⟨_,Ab Tryd.typeInfo109,rfl⟩ rfl rfl rfl rfl (Nat.le_of_ble_eq_true rfl) ?_)
  refine l_A (iV (0)) rfl rfl ?_
  refine l_A (iV ((Cw l rs))) rfl rfl ?_
  apply Ac
  apply k4
  refine Ai fun K8 k8=>?_
  refine w_q rfl rfl fun K9 k9=>?_
  refine l_M (iV ((Cw l rs))) rfl rfl ?_
  refine Aa rfl (Dg (p:=(Cw l rs)) (q:=0) rfl rfl) ?_
  apply Ac
  apply k9
  refine Co rfl (Anh hC6) ?_
  refine w_q rfl rfl fun K10 k10=>?_
  refine l_M (iV ((Cw l rs))) rfl rfl ?_
  refine l_A (.bool (false)) rfl rfl ?_
  refine l_A (iV ((Cw l rs))) rfl rfl ?_
  apply Ac
  apply k10
  refine Aj Ghost.drop ?_
  refine Aj (Arw (Arz (Arz l2 l3) l6)) ?_
  refine Aq ?_
  refine hret _ _ _ ?_
  refine ⟨rfl,rfl,Eq.trans (b:=(.tuple #[(.bool (false)),(iV ((Cw l rs)))])) (Mk (r:=6) (r':=7) (rs:=[]) (v:=(.bool (false))) (v':=(iV ((Cw l rs)))) (vs:=[]) ⟨rfl,rfl,trivial⟩) ?_⟩
  have hf:setlF l rs tree = Cw l rs:=by rw [setlF,Rx hC6]
  rw [hf,setlB,hf,if_neg hC6]
 obtain ⟨hl,hrs,hr8⟩:=(show Gj l = 0∧ResOk l rs∧rs.length ≤ 8 from Abk (Xz hC6))
 have ok:=Lm hl
 have hk4:=ok.n4
 have hm16:=Jx ok (rs:=rs)
 refine l_M (.tuple #[bp6,(iV ((((Bf (Ba l rs)):Nat):Int))),(iV (0))]) rfl rfl ?_
 refine Aa rfl (Bk (vs:=#[bp6,(iV ((((Bf (Ba l rs)):Nat):Int))),(iV (0))]) rfl (v:=bp6) rfl) ?_
 refine Aa rfl (Bk (vs:=#[bp6,(iV ((((Bf (Ba l rs)):Nat):Int))),(iV (0))]) rfl (v:=(iV ((((Bf (Ba l rs)):Nat):Int)))) rfl) ?_
 refine Aa rfl (Bk (vs:=#[bp6,(iV ((((Bf (Ba l rs)):Nat):Int))),(iV (0))]) rfl (v:=(iV (0))) rfl) ?_
 refine Ae rfl (Ct Amo fun k11=>?_)
 refine Cx rfl (Du (v:=bp6) (a:=(Ptr.mk ((⟨l.tests.map Dr,((Bf (Hk l):Nat):Int),⟨rm6⟩⟩:Bench)))) (c:=Amq) Sd rfl rfl (Io.2 rb6) rfl ?_)
 refine Bb (a:=(Ptr.mk ((⟨l.tests.map Dr,((Bf (Hk l):Nat):Int),⟨rm6⟩⟩:Bench)))) (Io.2 rb6) fun ρ12 l12 r12=>?_
 replace rr:=Asa l12 rr
 replace hg:=Glob.mono l12 hg
 replace r2:=Arv l12 r2
 replace r3:=Arv l12 r3
 replace r5:=Asa l12 r5
 replace rb6:=Arv l12 rb6
 refine l_A (iV ((((Bf (Ba l rs)):Nat):Int))) rfl rfl ?_
 refine l_A (iV (0)) rfl rfl ?_
 apply Ac
 apply k4
 refine Ai fun K13 k13=>?_
 refine w_q rfl rfl fun K14 k14=>?_
 refine l_M (iV (0)) rfl rfl ?_
 refine Aa rfl (Dg (p:=0) (q:=0) rfl rfl) ?_
 apply Ac
 apply k14
 refine Cg rfl rfl ?_
 refine Al ?_
 apply k13
 refine w_q rfl rfl fun K15 k15=>?_
 refine Aa rfl (Ic (fn:=.func 104) (caps:=[.tmp 5]) (vs:=[(.pointer (some ⟨k3,0,none⟩))]) ⟨rfl,trivial⟩) ?_
 refine l_A (.func (.func 104) #[] #[(.pointer (some ⟨k3,0,none⟩))]) rfl rfl ?_
 apply Ac
 apply k15
 refine Ai fun K16 k16=>?_
 refine w_q rfl rfl fun K17 k17=>?_
 refine Ak rfl (Ax ty49 rfl r3) fun v18 r18=>?_
 have g19:=Val.len r18
 refine Aa rfl (Ce (el:=94) Tryd.underlying49 rfl r18) ?_
 refine l_M (iV (0)) rfl rfl ?_
 apply Ac
 apply k17
 refine Ao ?_
 refine Cc (fun mm ee dd ρ' σ'=>∃ (i:Nat),(tree.length - i) = mm∧[] = dd∧ρ12 = ρ'∧((rm6,Res.obj (Obj.map #[] 0)) :: σ) = σ'∧ee 3 = (.pointer (some ⟨k2,0,none⟩))∧ee 5 = (.pointer (some ⟨k3,0,none⟩))∧ee 8 = (.pointer (some ⟨k11,0,none⟩))∧ee 9 = (iV ((((Bf (Ba l rs)):Nat):Int)))∧ee 11 = (.func (.func 104) #[] #[(.pointer (some ⟨k3,0,none⟩))])∧ee 27 = v18∧ee 28 = (iV (((tree.length:Nat):Int)))∧ee 29 = (iV ((i:Int)))∧(i ≤ tree.length)∧(∀ j,j < i→nodeAt l tree j = 0)∧True) (m:=_) ⟨0,rfl,rfl,rfl,rfl,rfl,rfl,rfl,rfl,rfl,rfl,rfl,rfl,(Nat.zero_le _),(fun j h=>absurd h (Nat.not_lt_zero _)),trivial⟩ ?_
 rintro m20 e20 _ _ _ ⟨i,rfl,rfl,rfl,rfl,h20_3,h20_5,h20_8,h20_9,h20_11,h20_27,h20_28,h20_29,p20_0,p20_1,_⟩
 refine w_q rfl rfl fun K21 k21=>?_
 refine Aa rfl (Da (p:=(i:Int)) (q:=((tree.length:Nat):Int)) h20_29 h20_28) ?_
 apply Ac
 apply k21
 refine Ai fun K22 k22=>?_
 refine As (t:=decide ((i:Int) < ((tree.length:Nat):Int))) rfl (fun b23=>?_) (fun b23=>?_)
 ·have q23:=of_decide_eq_true b23
  refine Al ?_
  apply k22
  refine Ai fun K24 k24=>?_
  refine Ao ?_
  refine w_q rfl rfl fun K25 k25=>?_
  refine Aa rfl (Ah (v:=(iV ((i:Int)))) h20_29) ?_
  obtain ⟨a27,ha27⟩:=Ed (xs:=tree) (i:=i) (by omega)
  refine Ak rfl (Ci i Tryd.underlying49 ty94 h20_27 r18 (q:=(i:Int)) h20_29 rfl ha27) fun v26 r26=>?_
  refine Ak rfl (Ax ty94 rfl r26) fun v28 r28=>?_
  refine Ae rfl (Ct Aes fun k29=>?_)
  refine l_A (iV ((i:Int))) rfl rfl ?_
  refine Cx rfl (Du (v:=v28) (a:=a27) (c:=Aly) ty94 rfl rfl r28 rfl ?_)
  refine Bb (a:=a27) r28 fun ρ30 l30 r30=>?_
  replace hg:=Glob.mono l30 hg
  replace r2:=Arv l30 r2
  replace r3:=Arv l30 r3
  replace r12:=Arv l30 r12
  replace r18:=Asa l30 r18
  replace r26:=Arv l30 r26
  replace r28:=Asa l30 r28
  apply Ac
  apply k25
  refine Ao ?_
  refine w_q rfl rfl fun K31 k31=>?_
  refine Ak rfl (Ay FNode.f_test Tryd.underlying94 rfl rfl ty3 (by decide) rfl r30) fun v32 r32=>?_
  have ⟨g33a,g33b⟩:=At.rng r32
  refine Aa rfl (Bc ty3 rfl r32) ?_
  refine Ak rfl (Ay Lab.f_tests Tryd.underlying40 rfl rfl Vd (by decide) h20_3 r2) fun v34 r34=>?_
  refine Ak rfl (Ax Vd rfl r34) fun v35 r35=>?_
  have g36:=Val.len r35
  refine Aa rfl (Ce (el:=108) Tryd.underlying38 rfl r35) ?_
  refine Aa rfl (Oq (p:=((l.tests.length:Nat):Int)) (q:=1) rfl rfl (z:=(((l.tests.length:Nat):Int) - 1)) (Bo (by first | rfl | omega | (push_cast; rfl)) (by omega) (by omega))) ?_
  refine Ae rfl (Bn (vs:=[(iV (a27.test)),(iV (0)),(iV ((((l.tests.length:Nat):Int) - 1)))]) (v:=(.bool (inR a27.test 0 ((((l.tests.length:Nat):Int) - 1))))) (Jn) Tryd.func92 rfl rfl ⟨rfl,rfl,rfl,trivial⟩ ?_)
  refine Aa rfl (Ix (k:=inR a27.test 0 ((((l.tests.length:Nat):Int) - 1))) rfl) ?_
  refine l_A (.bool (!(inR a27.test 0 ((((l.tests.length:Nat):Int) - 1))))) rfl rfl ?_
  apply Ac
  apply k31
  refine As (t:=!(inR a27.test 0 ((((l.tests.length:Nat):Int) - 1)))) rfl (fun b37=>?_) (fun b37=>?_)
  ·have b38:=not_eq_t b37
   have q38:=Ui.1 b38
   refine w_q rfl rfl fun K39 k39=>?_
   refine l_A (.bool (false)) rfl rfl ?_
   refine l_A (iV (6)) rfl rfl ?_
   apply Ac
   apply k39
   refine Aj Ghost.drop ?_
   refine Aj (Arw (Arz (Arz (Arz (Arz l2 l3) l6) l12) l30)) ?_
   refine Aq ?_
   refine hret _ _ _ ?_
   refine ⟨rfl,rfl,Eq.trans (b:=(.tuple #[(.bool (false)),(iV (6))])) (Mk (r:=6) (r':=7) (rs:=[]) (v:=(.bool (false))) (v':=(iV (6))) (vs:=[]) ⟨rfl,rfl,trivial⟩) ?_⟩
   have hN:nodeAt l tree i = 6:=by simp only [nodeAt,ha27,link_not,b23,b37,b38,Bool.true_and,Bool.false_and,Bool.and_true,Bool.and_false,Bool.true_or,Bool.false_or,Bool.or_true,Bool.or_false,Bool.not_true,Bool.not_false,if_true,Bool.false_eq_true,if_false]
   have hT:treeF l tree = 6:=by rw [treeF,Db p20_1 (by omega) hN (by omega)]
   have hf:setlF l rs tree = 6:=by rw [setlF,Gt hC6,hT]
   rw [hf,setlB,hf,if_neg (by omega)]
  have b40:=not_eq_f b37
  have q40:=Ge.1 b40
  refine w_q rfl rfl fun K41 k41=>?_
  refine Aa rfl (Ah (v:=(.func (.func 104) #[] #[(.pointer (some ⟨k3,0,none⟩))])) h20_11) ?_
  refine Ak rfl (Ay FNode.f_found Tryd.underlying94 rfl rfl ty3 (by decide) rfl r30) fun v42 r42=>?_
  have ⟨g43a,g43b⟩:=At.rng r42
  refine Aa rfl (Bc ty3 rfl r42) ?_
  refine l_M (iV ((i:Int))) rfl rfl ?_
  have hli44:=i64_of (x:=a27.found) (by omega) (by omega)
  refine Ae rfl (Us (caps:=[(.pointer (some ⟨k3,0,none⟩))]) (vs:=[(iV (a27.found)),(iV ((i:Int)))]) (v:=(.bool (a27.found == -1 || inR a27.found ((i + 1:Nat):Int) ((tree.length:Int) - 1)))) rfl (c_links (tree:=tree) (c:=a27.found) (i:=i) r3 hli44 (by omega) htl) Tryd.func104 rfl rfl ⟨rfl,rfl,trivial⟩ ?_)
  refine Aa rfl (Ix (k:=a27.found == -1 || inR a27.found ((i + 1:Nat):Int) ((tree.length:Int) - 1)) rfl) ?_
  refine l_M (.bool (!(a27.found == -1 || inR a27.found ((i + 1:Nat):Int) ((tree.length:Int) - 1)))) rfl rfl ?_
  refine Cn (!(a27.found == -1 || inR a27.found ((i + 1:Nat):Int) ((tree.length:Int) - 1))) (fun b45=>?_) (fun b45=>?_)
  ·have b46:=not_eq_t b45
   refine Ap (Bl rfl rfl rfl b45) ?_
   refine Ap (Bl rfl rfl rfl b45) ?_
   refine Ap (Bl rfl rfl rfl b45) ?_
   refine Ap (Bl rfl rfl rfl b45) ?_
   refine Ap (Bl rfl rfl rfl b45) ?_
   refine Ap (Bl rfl rfl rfl b45) ?_
   refine Aa rfl (Bt rfl b45 (v:=(.bool (true))) rfl) ?_
   refine l_A (.bool (true)) rfl rfl ?_
   apply Ac
   apply k41
   refine Co rfl rfl ?_
   refine w_q rfl rfl fun K47 k47=>?_
   refine l_A (.bool (false)) rfl rfl ?_
   refine l_A (iV (7)) rfl rfl ?_
   apply Ac
   apply k47
   refine Aj Ghost.drop ?_
   refine Aj (Arw (Arz (Arz (Arz (Arz l2 l3) l6) l12) l30)) ?_
   refine Aq ?_
   refine hret _ _ _ ?_
   refine ⟨rfl,rfl,Eq.trans (b:=(.tuple #[(.bool (false)),(iV (7))])) (Mk (r:=6) (r':=7) (rs:=[]) (v:=(.bool (false))) (v':=(iV (7))) (vs:=[]) ⟨rfl,rfl,trivial⟩) ?_⟩
   have hN:nodeAt l tree i = 7:=by simp only [nodeAt,ha27,link_not,b23,b37,b40,b45,b46,Bool.true_and,Bool.false_and,Bool.and_true,Bool.and_false,Bool.true_or,Bool.false_or,Bool.or_true,Bool.or_false,Bool.not_true,Bool.not_false,if_true,Bool.false_eq_true,if_false]
   have hT:treeF l tree = 7:=by rw [treeF,Db p20_1 (by omega) hN (by omega)]
   have hf:setlF l rs tree = 7:=by rw [setlF,Gt hC6,hT]
   rw [hf,setlB,hf,if_neg (by omega)]
  have b48:=not_eq_f b45
  refine Aa (Ar rfl rfl rfl b45) (Ah (v:=(.func (.func 104) #[] #[(.pointer (some ⟨k3,0,none⟩))])) h20_11) ?_
  refine Ak (Ar rfl rfl rfl b45) (Ay FNode.f_not Tryd.underlying94 rfl rfl ty3 (by decide) rfl r30) fun v49 r49=>?_
  have ⟨g50a,g50b⟩:=At.rng r49
  refine Aa (Ar rfl rfl rfl b45) (Bc ty3 rfl r49) ?_
  refine l_M (iV ((i:Int))) (Ar rfl rfl rfl b45) rfl ?_
  have hli51:=i64_of (x:=a27.not) (by omega) (by omega)
  refine Ae (Ar rfl rfl rfl b45) (Us (caps:=[(.pointer (some ⟨k3,0,none⟩))]) (vs:=[(iV (a27.not)),(iV ((i:Int)))]) (v:=(.bool (a27.not == -1 || inR a27.not ((i + 1:Nat):Int) ((tree.length:Int) - 1)))) rfl (c_links (tree:=tree) (c:=a27.not) (i:=i) r3 hli51 (by omega) htl) Tryd.func104 rfl rfl ⟨rfl,rfl,trivial⟩ ?_)
  refine Aa (Ar rfl rfl rfl b45) (Ix (k:=a27.not == -1 || inR a27.not ((i + 1:Nat):Int) ((tree.length:Int) - 1)) rfl) ?_
  refine Aa rfl (Bm rfl b45 (v:=(.bool (!(a27.not == -1 || inR a27.not ((i + 1:Nat):Int) ((tree.length:Int) - 1))))) rfl) ?_
  refine l_A (.bool (!(a27.not == -1 || inR a27.not ((i + 1:Nat):Int) ((tree.length:Int) - 1)))) rfl rfl ?_
  apply Ac
  apply k41
  refine As (t:=!(a27.not == -1 || inR a27.not ((i + 1:Nat):Int) ((tree.length:Int) - 1))) rfl (fun b52=>?_) (fun b52=>?_)
  ·have b53:=not_eq_t b52
   refine w_q rfl rfl fun K54 k54=>?_
   refine l_A (.bool (false)) rfl rfl ?_
   refine l_A (iV (7)) rfl rfl ?_
   apply Ac
   apply k54
   refine Aj Ghost.drop ?_
   refine Aj (Arw (Arz (Arz (Arz (Arz l2 l3) l6) l12) l30)) ?_
   refine Aq ?_
   refine hret _ _ _ ?_
   refine ⟨rfl,rfl,Eq.trans (b:=(.tuple #[(.bool (false)),(iV (7))])) (Mk (r:=6) (r':=7) (rs:=[]) (v:=(.bool (false))) (v':=(iV (7))) (vs:=[]) ⟨rfl,rfl,trivial⟩) ?_⟩
   have hN:nodeAt l tree i = 7:=by simp only [nodeAt,ha27,link_not,b23,b37,b40,b45,b48,b52,b53,Bool.true_and,Bool.false_and,Bool.and_true,Bool.and_false,Bool.true_or,Bool.false_or,Bool.or_true,Bool.or_false,Bool.not_true,Bool.not_false,if_true,Bool.false_eq_true,if_false]
   have hT:treeF l tree = 7:=by rw [treeF,Db p20_1 (by omega) hN (by omega)]
   have hf:setlF l rs tree = 7:=by rw [setlF,Gt hC6,hT]
   rw [hf,setlB,hf,if_neg (by omega)]
  have b55:=not_eq_f b52
  refine Al ?_
  apply k24
  refine Ag rfl rfl ?_
  refine Aa rfl (Br (p:=(i:Int)) (q:=1) h20_29 rfl (z:=(((i + 1):Nat):Int)) (Bo (by first | rfl | omega | (push_cast; rfl)) (by omega) (by omega))) ?_
  refine l_M (iV ((((i + 1):Nat):Int))) rfl rfl ?_
  refine Bj (Arw l30) ?_
  apply Ac
  refine ⟨_,?_,((i + 1)),rfl,rfl,rfl,rfl,h20_3,h20_5,h20_8,h20_9,h20_11,h20_27,h20_28,rfl,(by omega),(Ef p20_1 (by simp only [nodeAt,ha27,link_not,b23,b37,b40,b45,b48,b52,b55,Bool.true_and,Bool.false_and,Bool.and_true,Bool.and_false,Bool.true_or,Bool.false_or,Bool.or_true,Bool.or_false,Bool.not_true,Bool.not_false,if_true,Bool.false_eq_true,if_false])),trivial⟩
  omega
 have q23:=of_decide_eq_false b23
 refine Bx ?_
 apply k16
 refine w_q rfl rfl fun K56 k56=>?_
 refine Ae rfl (Oa fun k57=>?_)
 refine Ae rfl (Ct zr166 fun k58=>?_)
 refine Cx rfl (Du (v:=(.map (some k57))) (a:=(⟨k57⟩:MapRef)) (c:=zc166) ty166 rfl rfl val_map rfl ?_)
 refine Bb (a:=(⟨k57⟩:MapRef)) val_map fun ρ59 l59 r59=>?_
 replace hg:=Glob.mono l59 hg
 replace r2:=Arv l59 r2
 replace r3:=Arv l59 r3
 replace r12:=Arv l59 r12
 replace r18:=Asa l59 r18
 apply Ac
 apply k56
 refine w_q rfl rfl fun K60 k60=>?_
 refine Ae rfl (Ct zr167 fun k61=>?_)
 apply Ac
 apply k60
 refine w_q rfl rfl fun K62 k62=>?_
 refine Aa rfl (Ic (fn:=.func 105) (caps:=[.tmp 5,.tmp 14,.tmp 15,.tmp 8]) (vs:=[(.pointer (some ⟨k3,0,none⟩)),(.pointer (some ⟨k58,0,none⟩)),(.pointer (some ⟨k61,0,none⟩)),(.pointer (some ⟨k11,0,none⟩))]) ⟨h20_5,rfl,rfl,h20_8,trivial⟩) ?_
 refine Cx rfl (Du (v:=(.func (.func 105) #[] #[(.pointer (some ⟨k3,0,none⟩)),(.pointer (some ⟨k58,0,none⟩)),(.pointer (some ⟨k61,0,none⟩)),(.pointer (some ⟨k11,0,none⟩))])) (a:=(RawV.mk ((.func (.func 105) #[] #[(.pointer (some ⟨k3,0,none⟩)),(.pointer (some ⟨k58,0,none⟩)),(.pointer (some ⟨k61,0,none⟩)),(.pointer (some ⟨k11,0,none⟩))])))) (c:=zc167) ty167 rfl rfl (Sl rfl) rfl ?_)
 refine Bb (a:=(RawV.mk ((.func (.func 105) #[] #[(.pointer (some ⟨k3,0,none⟩)),(.pointer (some ⟨k58,0,none⟩)),(.pointer (some ⟨k61,0,none⟩)),(.pointer (some ⟨k11,0,none⟩))])))) (Sl rfl) fun ρ63 l63 r63=>?_
 replace hg:=Glob.mono l63 hg
 replace r3:=Arv l63 r3
 replace r12:=Arv l63 r12
 replace r59:=Arv l63 r59
 apply Ac
 apply k62
 refine w_q rfl rfl fun K64 k64=>?_
 refine Aa rfl (Lb ty167 rfl r63) ?_
 refine Aa rfl (Ah (v:=(iV ((((Bf (Ba l rs)):Nat):Int)))) h20_9) ?_
 have r66:Val ρ63 (.agg #[(iV (0)),(iV ((((Bf (Ba l rs)):Nat):Int)))]) (⟨0,(((Bf (Ba l rs)):Nat):Int)⟩:Place):=Place.shut (x:=(⟨0,(((Bf (Ba l rs)):Nat):Int)⟩:Place)) (show I64 (0) from by constructor <;> omega) (show I64 ((((Bf (Ba l rs)):Nat):Int)) from by constructor <;> omega)
 refine Aa rfl (Dm (ns:=[1,1]) (vs:=[(0,(iV (0))),(1,(iV ((((Bf (Ba l rs)):Nat):Int))))]) (zc:=zc169) (cs:=[(iV (0)),(iV ((((Bf (Ba l rs)):Nat):Int)))]) Tryd.underlying169 zr169 rfl ⟨⟨_,Ab Tryd.typeInfo3,rfl⟩,⟨_,Ab Tryd.typeInfo110,rfl⟩,trivial⟩ (EvB.map ⟨⟨rfl,rfl⟩,⟨rfl,rfl⟩,trivial⟩) ((Bd (cs:=[(iV (0))]) rfl rfl (Nat.le_of_ble_eq_true rfl)).trans ((Bd (cs:=[(iV ((((Bf (Ba l rs)):Nat):Int)))]) rfl rfl (Nat.le_of_ble_eq_true rfl)).trans rfl))) ?_
 have hT:treeF l tree = 0:=by rw [treeF,Fb fun j hj=>p20_1 j (by omega)]
 have ok2:=treeF_0 hT
 refine Ae rfl (Si (vs:=[(.agg #[(iV (0)),(iV ((((Bf (Ba l rs)):Nat):Int)))])]) (caps:=[(.pointer (some ⟨k3,0,none⟩)),(.pointer (some ⟨k58,0,none⟩)),(.pointer (some ⟨k61,0,none⟩)),(.pointer (some ⟨k11,0,none⟩))]) rfl (c_endsP (k:=tree.length) (at_:=0) (s:=Bf (Ba l rs)) hg (by omega) (.inr ⟨by omega,by simp⟩) r3 r59 r63 r12 hm16 Ajm hl ok2 htl) Tryd.func105 rfl rfl ⟨rfl,trivial⟩ fun w67 ρ67 σ67 hc67=>?_)
 obtain ⟨hr67,es67,ck67,hw67,hs67,MM67⟩:=hc67
 replace hr67:=hr67.symm; subst hr67; subst hs67
 rw [Fq ok] at hw67
 subst hw67
 refine l_A (.bool (endsF l tree 0 (Ba l rs))) rfl rfl ?_
 refine l_A (iV (0)) rfl rfl ?_
 apply Ac
 apply k64
 refine Aj Ghost.drop ?_
 refine Aj Ghost.drop ?_
 refine Aj (Arw (Arz (Arz (Arz (Arz (Arz l2 l3) l6) l12) l59) l63)) ?_
 refine Aq ?_
 refine hret _ _ _ ?_
 refine ⟨rfl,rfl,Eq.trans (b:=(.tuple #[(.bool (endsF l tree 0 (Ba l rs))),(iV (0))])) (Mk (r:=6) (r':=7) (rs:=[]) (v:=(.bool (endsF l tree 0 (Ba l rs)))) (v':=(iV (0))) (vs:=[]) ⟨rfl,rfl,trivial⟩) ?_⟩
 have hf:setlF l rs tree = 0:=by rw [setlF,Gt hC6,hT]
 rw [hf,setlB,if_pos hf]
end Go.Proofs.YtoefdnbaklajeaaDoor

namespace Go.Proofs.YtoefdnbaklajeaaDoor
open Go
theorem noRecv_grow {α:Type} [Dat α] {ρ:Ro} {el:TypeId} {v:Value} {xs:List α} {gr σ:Own} (hG:Grow ρ el v xs gr) (h:Js σ):Js (gr ++ σ):=fun c vs hm=>by
  rcases List.mem_append.1 hm with hm | hm
  · obtain ⟨o,ho⟩:=hG.1 _ hm
    cases ho
  · exact h c vs hm
end Go.Proofs.YtoefdnbaklajeaaDoor

namespace Go.Proofs.YtoefdnbaklajeaaDoor
open Go Go.WideShapes Go.ChangeShapes Go.RowKit Go.Conc
/-- What the first goroutine may rely on besides: what it owns is newer than the call's world; what it has frozen is its own again while nobody else is there. -/
def mainY (P:Program) (W0:World):Frame→List Frame→Ro→Own→Cy→Prop:=fun fr cs ρ σ K =>
  Acu P fr cs ρ σ K ∨
  (∃ (gr:Own) (ρ':Ro),Js σ∧(∀ p ∈ gr,W0.heap.size ≤ p.1∧∃ o,p.2 = Res.obj o∧ρ p.1 = some o)∧(keys gr).Nodup∧Ro.le ρ' ρ∧(∀ p ∈ gr,ρ' p.1 = none)∧K fr cs ρ' (gr ++ σ)) ∨
  ((∀ b ∈ keys σ,W0.heap.size ≤ b)→K fr cs ρ σ)
section
variable {P:Program} {Pst:Value→World→Prop} {W0:World} {fr:Frame} {cs:List Frame} {ρ:Ro} {σ:Own}
theorem fine_thaw {gr:Own} {ρ':Ro} (hn:Js σ) (hg:∀ p ∈ gr,W0.heap.size ≤ p.1∧∃ o,p.2 = Res.obj o∧ρ p.1 = some o) (hnd:(keys gr).Nodup) (hle:Ro.le ρ' ρ) (hno:∀ p ∈ gr,ρ' p.1 = none)
    (hK:Fine P W0 Pst fr cs ρ' (gr ++ σ)):Fine P W0 Pst fr cs ρ σ:=by
  refine ⟨fun gs w sl t q h=>hK.A gs w sl t q { h with sat:=?_,nr:=?_,newk:=?_ },fun c vs j Am Aw Sh fw cw ρw σw wp gs w sl t q _ h=>absurd h.hc (hn _ _),fun c j Am Aw Sh pc gs w sl t q h=>absurd h.hc (hn _ _)⟩
  · have hk:keys (gr ++ σ) = keys gr ++ keys σ:=List.map_append
    refine ⟨fun k ok hk=>h.sat.ro k ok (hle k ok hk),fun p hp=>?_,?_,fun k hk'=>?_⟩
    · rcases List.mem_append.1 hp with hp | hp
      · obtain ⟨_,o,ho,hr⟩:=hg p hp
        rw [ho]; exact h.sat.ro _ _ hr
      · exact h.sat.own p hp
    · rw [hk,List.nodup_append]
      refine ⟨hnd,h.sat.nd,fun a ha b hb e=>?_⟩
      subst e
      obtain ⟨p,hp,rfl⟩:=List.mem_map.1 ha
      obtain ⟨_,o,_,hr⟩:=hg p hp
      have:=h.sat.dj _ hb
      rw [hr] at this; cases this
    · rw [hk,List.mem_append] at hk'
      rcases hk' with hk' | hk'
      · obtain ⟨p,hp,rfl⟩:=List.mem_map.1 hk'; exact hno p hp
      · cases hr:ρ' k with
        | none=>rfl
        | some o=>have:=h.sat.dj k hk'; rw [hle k o hr] at this; cases this
  · intro c vs hm
    rcases List.mem_append.1 hm with hm | hm
    · obtain ⟨_,o,ho,_⟩:=hg _ hm; cases ho
    · exact hn c vs hm
  · intro b hb
    rw [show keys (gr ++ σ) = keys gr ++ keys σ from List.map_append,List.mem_append] at hb
    rcases hb with hb | hb
    · obtain ⟨p,hp,rfl⟩:=List.mem_map.1 hb; exact (hg p hp).1
    · exact h.newk b hb
theorem fine_fresh (hK:(∀ b ∈ keys σ,W0.heap.size ≤ b)→Fine P W0 Pst fr cs ρ σ):Fine P W0 Pst fr cs ρ σ :=
  ⟨fun gs w sl t q h=>(hK h.newk).A gs w sl t q h,fun c vs j Am Aw Sh fw cw ρw σw wp gs w sl t q hW h=>(hK h.newk).B c vs j Am Aw Sh fw cw ρw σw wp gs w sl t q hW h,fun c j Am Aw Sh pc gs w sl t q h=>(hK h.newk).C c j Am Aw Sh pc gs w sl t q h⟩
theorem fine_of_goesY (h:GoesH ⟨P,true,mainY P W0⟩ (Aiy P W0 Pst) fr cs ρ σ):Fine P W0 Pst fr cs ρ σ:=by
  induction h with
  | stop h=>exact Aev h
  | ghost hg _ ih=>exact ih.ghost hg
  | step K h1 _ ih=>exact Aet h1 ih
  | @ext fr cs ρ σ K h1 _ ih =>
    rcases h1 with (⟨d,i,c,vs,fr',h1,h2,h3,h4,h5⟩ | ⟨i,c,v,vs,z,h1,h2,h3⟩ | ⟨i,c,z,h1,h2,h3⟩) | ⟨gr,ρ',h1,h2,h3,h4,h5,h6⟩ | h1
    · exact Aff h1 h2 h3 h4 (ih _ _ _ _ h5)
    · exact Afs h1 h2 (ih _ _ _ _ h3)
    · exact Afl h1 h2 (ih _ _ _ _ h3)
    · exact fine_thaw h1 h2 h3 h4 h5 (ih _ _ _ _ h6)
    · exact fine_fresh fun hk=>ih _ _ _ _ (h1 hk)
theorem run_of_goesY {F:Frame} (h:GoesH ⟨P,true,mainY P W0⟩ (Aiy P W0 Pst) F [] ρ []) (hro:∀ b o,ρ b = some o→W0.heap[b]? = some o∧o.isChan = false) :
    ∃ M last o w' t',runNT P (M + 1) (solo (G F []) W0) #[] = (.ended o w',t')∧runN P M (solo (G F []) W0) = .next last∧step P last = .ended o w'∧Go.Conc.Good P Pst last o w' t':=by
  have hw:Nq P Pst (crowd #[G F []] W0 none) #[]:=(fine_of_goesY h).A #[G F []] W0 none #[] (fun _=>0) {
    g0:=⟨G F [],rfl,Is.of _ _⟩
    oth:=fun k y hk hy=>by
      match k with
      | 0=>exact absurd rfl hk
      | k + 1=>simp at hy
    sat:=⟨hro,fun p hp=>absurd hp List.not_mem_nil,List.nodup_nil,fun b hb=>absurd hb List.not_mem_nil⟩
    nr:=fun c' vs' hc'=>by cases hc'
    newk:=fun b hb=>by cases hb
    below:=Below.refl _ _
    tr:=TA.nil }
  exact hw
theorem top_of_bodyY {f:FuncId} {r:Nat} {args:List Value} {R:Value→Ro→Own→Prop} (h:Agv ⟨P,true,mainY P W0⟩ f r args ρ [] R) (hi:P.inits.idxOf? f = none)
    (hR:∀ v ρ' σ',R v ρ' σ'→σ' = []∧∀ W,Below W0.heap.size W0 W→Pst v W):GoesH ⟨P,true,mainY P W0⟩ (Aiy P W0 Pst) (Frame.enter P f args.toArray .normal) [] ρ []:=by
  obtain ⟨fn,c,hf,hc,hr,ha,hw⟩:=h
  have hf:P.funcs[f]? = some fn:=hf
  have e1:Frame.enter P f args.toArray .normal = Fr ⟨f,.normal,none⟩ (args.toArray ++ Array.replicate (fn.ntmps - args.toArray.size) undef) [] [.code c]:=by
    simp [Frame.enter,hf,hc,Fr]
  rw [e1]
  refine (hw (fun ex e ds ρ σ=>(∀ id,ex ≠ .exit id)∧ds = []∧R (e r) ρ σ) (fun e ρ' σ' h=>⟨fun id h=>(by cases h),rfl,h⟩) (fun e ρ' σ' h=>⟨fun id h=>(by cases h),rfl,h⟩) _ [] [] (Uj ha)).bind ?_
  rintro _ _ ρ' σ' ⟨rfl,ex,tm',e',ds',todo,h1,⟨h2,rfl,h3⟩,h4,rfl⟩
  obtain ⟨rfl,hp⟩:=hR _ _ _ h3
  have fin:∀ todo,GoesH ⟨P,true,mainY P W0⟩ (Aiy P W0 Pst) { Fr ⟨f,.normal,none⟩ tm' [] todo with mode:=.returning } [] ρ' []:=fun todo=>by
    refine .stop ⟨fun c vs hm=>(by cases hm),fun W hs hb _=>⟨e' r,W,#[],?_,fun ev hv=>by simp at hv,hp W hb⟩⟩
    have hrs:(results fn tm').runT P W #[] = (.ok (e' r) W,#[]):=by
      rw [← h1.2 r]
      unfold results; rw [hr,Array.mapM_eq_foldlM]; rfl
    simp [Conc.G,stepG,Fr,unwind,hf,-Sem.runT_eq,hrs,doReturn,hi,GStep.after,seen]
  cases ex with
  | normal =>
    cases h4
    exact Eh (fr':={ Fr ⟨f,.normal,none⟩ tm' [] [] with mode:=.returning }) (cs':=[]) (fun W=>by simp [Conc.G,stepG,stepG.exec,Fr]) (fin _)
  | exit id=>exact absurd rfl (h2 id)
  | ret =>
    obtain ⟨pre,rfl⟩:=h4
    exact Eh (fr':={ Fr ⟨f,.normal,none⟩ tm' [] (.code .ret :: (pre ++ [])) with mode:=.returning }) (cs':=[]) (fun W=>by simp [Conc.G,stepG,stepG.exec,Fr]) (fin _)
end
theorem GoesH.ctx {P:Program} {mn:Bool} {X Y:Frame→List Frame→Ro→Own→Cy→Prop} (hX:∀ fr cs ρ σ K,X fr cs ρ σ K→Y fr cs ρ σ K) {S:Cy} {fr:Frame} {cs:List Frame} {ρ:Ro} {σ:Own} (h:GoesH ⟨P,mn,X⟩ S fr cs ρ σ):GoesH ⟨P,mn,Y⟩ S fr cs ρ σ:=by
  induction h with
  | stop h=>exact .stop h
  | ghost hg _ ih=>exact .ghost hg ih
  | step K h1 _ ih=>exact .step K h1 ih
  | ext K h1 _ ih=>exact .ext K (hX _ _ _ _ _ h1) ih
noncomputable abbrev CY (W0:World):Ctx:=CX true (mainY Tryd.prog W0)
theorem calls_up {W0:World} {f:FuncId} {args:Array Value} {ρ:Ro} {σ:Own} {R:Value→Ro→Own→Prop} (h:CallsH (CX true (Acu Tryd.prog)) f args ρ σ R):CallsH (CY W0) f args ρ σ R :=
  fun c cs=>(h c cs).ctx fun _ _ _ _ _ h=>.inl h
section
variable {W0:World} {b:FB} {n:Nat} {e:Env} {ds:List Deferred} {ρ:Ro} {σ:Own}
theorem goes_fresh {S:Cy} {fr:Frame} {cs:List Frame} (h:(∀ b ∈ keys σ,W0.heap.size ≤ b)→(keys σ).Nodup→(∀ b ∈ keys σ,ρ b = none)→GoesH (CY W0) S fr cs ρ σ):GoesH (CY W0) S fr cs ρ σ:=by
  by_cases hs:∃ W,Sat ρ σ W
  · obtain ⟨W,hs⟩:=hs
    exact .ext (fun fr' cs' ρ' σ'=>fr' = fr∧cs' = cs∧ρ' = ρ∧σ' = σ∧∀ b ∈ keys σ,W0.heap.size ≤ b) (.inr (.inr fun hk=>⟨rfl,rfl,rfl,rfl,hk⟩)) (by rintro _ _ _ _ ⟨rfl,rfl,rfl,rfl,hk⟩; exact h hk hs.nd hs.dj)
  · exact Rc fun W hW=>hs ⟨W,hW⟩
theorem goes_freezes {C:Ctx} {S:Cy} {fr:Frame} {cs:List Frame}:∀ {gr:Own} {ρ:Ro},(∀ p ∈ gr,∃ o,p.2 = Res.obj o)→(∀ ρ',Ro.le ρ ρ'→(∀ p ∈ gr,∃ o,p.2 = Res.obj o∧ρ' p.1 = some o)→GoesH C S fr cs ρ' σ)→GoesH C S fr cs ρ (gr ++ σ)
  | [],ρ,_,h=>h ρ .refl fun p hp=>by cases hp
  | (k,x) :: gr,ρ,hg,h=>by
    obtain ⟨o,ho⟩:=hg _ (List.mem_cons_self ..)
    simp only at ho; subst ho
    refine Rv fun ρ' h1 h2=>goes_freezes (fun p hp=>hg p (List.mem_cons_of_mem _ hp)) fun ρ'' h3 h4=>h ρ'' (h1.trans h3) fun p hp=>?_
    rcases List.mem_cons.1 hp with rfl | hp
    · exact ⟨o,rfl,h3 _ _ h2⟩
    · exact h4 p hp
/-- Blocks that are lent: frozen for now,newer than the call's world,not read before. -/
structure Lent (W0:World) (ρ0 ρ:Ro) (gr:Own):Prop where
  at_:∀ p ∈ gr,W0.heap.size ≤ p.1∧∃ o,p.2 = Res.obj o∧ρ p.1 = some o
  nd:(keys gr).Nodup
  no:∀ p ∈ gr,ρ0 p.1 = none
  le:Ro.le ρ0 ρ
theorem Lent.mono {ρ0 ρ':Ro} {gr:Own} (hle:Ro.le ρ ρ') (h:Lent W0 ρ0 ρ gr):Lent W0 ρ0 ρ' gr :=
  ⟨fun p hp=>let ⟨h1,o,h2,h3⟩:=h.at_ p hp; ⟨h1,o,h2,hle _ _ h3⟩,h.nd,h.no,h.le.trans hle⟩
theorem goes_lend {α:Type} [Dat α] {S:Cy} {fr:Frame} {cs:List Frame} {el:TypeId} {v:Value} {xs:List α} {gr:Own} (hg:Grow ρ el v xs gr)
    (h:∀ ρ',Ro.le ρ ρ'→Val ρ' v xs→Lent W0 ρ ρ' gr→GoesH (CY W0) S fr cs ρ' σ):GoesH (CY W0) S fr cs ρ (gr ++ σ):=by
  refine goes_fresh fun h1 h2 h3=>goes_freezes hg.1 fun ρ' h4 h5=>h ρ' h4 ?_ ⟨fun p hp=>⟨h1 _ (List.mem_map_of_mem (f:=Prod.fst) (List.mem_append_left _ hp)),h5 p hp⟩,?_,fun p hp=>h3 _ (List.mem_map_of_mem (f:=Prod.fst) (List.mem_append_left _ hp)),h4⟩
  · rcases hg.2.2 with ⟨e1,e2⟩ | ⟨r,cap,cs,rs,gb,e1,e2,e3,e4,e5⟩
    · rw [e1,e2]; exact Gx
    · obtain ⟨o,ho,hr⟩:=h5 (r,.obj (.cells (cs ++ rs).toArray el (0,0))) (by rw [e2]; exact List.mem_cons_self ..)
      cases ho
      exact Grow.val hg.2.1 e1 (e3.mono h4) e5 hr
  · rw [show keys (gr ++ σ) = keys gr ++ keys σ from List.map_append,List.nodup_append] at h2
    exact h2.1
theorem goes_back {S:Cy} {fr:Frame} {cs:List Frame} {gr:Own} {ρ0:Ro} (hL:Lent W0 ρ0 ρ gr) (hn:Js σ) (h:GoesH (CY W0) S fr cs ρ0 (gr ++ σ)):GoesH (CY W0) S fr cs ρ σ :=
  .ext (fun fr' cs' ρ' σ'=>fr' = fr∧cs' = cs∧ρ' = ρ0∧σ' = gr ++ σ) (.inr (.inl ⟨gr,ρ0,hn,hL.at_,hL.nd,hL.le,hL.no,rfl,rfl,rfl,rfl⟩)) (by rintro _ _ _ _ ⟨rfl,rfl,rfl,rfl⟩; exact h)
theorem l_lend {α:Type} [Dat α] {Q:Env→List Deferred→Ro→Own→Prop} {l₀ rest:List Oper} {el:TypeId} {v:Value} {xs:List α} {gr:Own} (hg:Grow ρ el v xs gr) (h:∀ ρ',Ro.le ρ ρ'→Val ρ' v xs→Lent W0 ρ ρ' gr→Ey (CY W0) b n l₀ rest Q e ds ρ' σ):Ey (CY W0) b n l₀ rest Q e ds ρ (gr ++ σ) :=
  fun pre h1 h2 h3 tm k cs ht=>goes_lend hg fun ρ' h4 h5 h6=>h ρ' h4 h5 h6 pre h1 h2 h3 tm k cs ht
theorem l_back {Q:Env→List Deferred→Ro→Own→Prop} {l₀ rest:List Oper} {gr:Own} {ρ0:Ro} (hL:Lent W0 ρ0 ρ gr) (hn:Js σ) (h:Ey (CY W0) b n l₀ rest Q e ds ρ0 (gr ++ σ)):Ey (CY W0) b n l₀ rest Q e ds ρ σ :=
  fun pre h1 h2 h3 tm k cs ht=>goes_back hL hn (h pre h1 h2 h3 tm k cs ht)
end
set_option maxRecDepth 100000 in
/-- As law_lift,with what may be lent. -/
theorem law_liftY {f:FuncId} {r:Nat} {fn:Func} {s:ChangeSpec} (os:Os) (started:os.Started) (H:Type) (enc:TypeId × Value→H) (hfn:Tryd.prog.funcs[f]? = some fn) (hvars:s.vars = []) (hres:fn.resultTypes = #[4]) (hi:Tryd.prog.inits.idxOf? f = none)
    (hts:∀ t ∈ fn.params.toList,Tryd.prog.readableRec t = true∧t < Tryd.prog.types.size)
    (hspec:∀ ds:List (DataW H),ds.length = fn.params.toList.length→s.fn H ds = { results:=[.lit (.bool true)],args:=ds })
    (witness:∃ (w:World) (tape:Tape) (i:Input),w.os = os∧(w.forCall tape i).Shaped Tryd.prog∧i.vars = []∧Input.okWide Tryd.prog (w.forCall tape i) .any w.heap.size f i∧Aqs H enc s fn (w.forCall tape i).memory i.args∧({}:Assume).holds Tryd.prog (lone (Frame.enter Tryd.prog f i.args .normal) [] (w.forCall tape i)))
    (walk:∀ (W:World) (args:List Value) (ds:List (DataW H)) (ps:List MemPlace),(∀ (j:Nat) t v,fn.params[j]? = some t→args.toArray[j]? = some v→∃ b,Value.okWide Tryd.prog W .any b t v)→DataW.TrodAll enc Tryd.prog W 0 (fun _=>true) true fn.params.toList args ds ps →
      (DataW.weightsEach Tryd.prog fn.params.toList ds).all (· ≤ reachBytes) = true→Glob (roW W)→Agv (CY W) f r args (roW W) [] (fun w ρ' σ'=>ρ' = roW W∧σ' = []∧w = .bool true)) :
    ReturnsInLeavingWide {} Tryd.checked os f .any (Aqs H enc s fn) (s.post enc Tryd.prog fn false true false false):=by
  refine returnsInLeavingWide_of_good (C:=Tryd.checked) Aru started witness ?_
  intro w tape i _ _ _ hok hpre _
  obtain ⟨_,_,_,fn',hfn',_,_,_,_,hval⟩:=hok
  have e:fn' = fn:=Option.some.inj (hfn'.symm.trans hfn)
  subst e
  obtain ⟨⟨⟨ds,gs,before,hw,_⟩,hL⟩,hz⟩:=hpre
  have hsz:=hz.weights hw
  have hw':=DataW.Whole.of_heap (w':=w.forCall tape i) (by rfl) hw
  have hL':=hL.of_heap (w':=w.forCall tape i) (by rfl)
  generalize w.forCall tape i = W at *
  obtain ⟨p,q,hA,hV,hb,hnf,hnd⟩:=hw'
  have hV':DataW.TrodVars enc Tryd.prog W (fun _=>true) [] gs q:=by rw [← hvars]; exact hV
  obtain ⟨rfl,rfl⟩:=trodVars_none hV'
  simp only [List.append_nil] at hb
  replace hb:=hb.symm
  subst hb
  have hvt:s.plain.varTypes Tryd.prog = []:=by unfold DataSpec.varTypes ChangeSpec.plain; rw [hvars]; rfl
  rw [show (OpenSpec.ofChange s).bare.plain.varTypes Tryd.prog = [] from hvt,List.append_nil,List.append_nil] at hsz
  obtain ⟨hl1,hl2⟩:=Sa hA
  have hargs:i.args.toList.toArray = i.args:=by simp
  have hbody:=walk W i.args.toList ds p (fun j t v h1 h2=>⟨_,hval j t v h1 (by rw [hargs] at h2; exact h2)⟩) hA hsz (Xd hL')
  have hW0:DataW.Whole enc Tryd.prog fn'.params.toList s.vars false W i.args.toList ds [] p:=⟨p,[],hA,hV,by simp,hnf,hnd⟩
  have hlt:∀ x ∈ p,x.block < W.heap.size:=fun x hx=>by simpa using hW0.lt x hx
  have hgo:=top_of_bodyY (W0:=W) (Pst:=fun v W'=>s.post enc Tryd.prog fn' false true false false W i.args v W') hbody hi fun v ρ' σ' ⟨_,hσ,hv⟩=>⟨hσ,fun W' hbw=>by
    subst hv
    have er:(s.fn H (ds ++ [])) = { results:=[.lit (.bool true)],args:=ds }:=by rw [List.append_nil]; exact hspec ds hl2
    refine ⟨ds,[],p,[],p,[],hW0,?_,?_,?_,hbw.frame _,fun h=>by cases h⟩
    · rw [er,hres]; exact trodAll_mk1 (shut_bool Tryd.underlying4 true)
    · rw [er]; exact On hbw hts hlt hA
    · rw [er,hvars]; rfl⟩
  rw [hargs] at hgo
  obtain ⟨M,last,o,w',t',h1,h2,h3,h4⟩:=run_of_goesY hgo Anq
  exact ⟨M,last,o,w',t',h1,h2,h3,h4.mono fun v hp=>ChangeSpec.post_blind hp⟩
end Go.Proofs.YtoefdnbaklajeaaDoor

namespace Go.Proofs.YtoefdnbaklajeaaDoor
open Go Go.WideShapes
/-- A number without a sign of two bytes. -/
structure UH where
  n:Nat
  lt:n < 65536
instance:Dat UH where
  k:=1
  agg:=false
  rep _ cs x:=cs = [.int .u16 (x.n:Int)]
  mono _ h:=h
  len h:=by rw [h]; rfl
  sgl h:=by rw [h]; simp [single]
  one _:=rfl
theorem val_uh {ρ:Ro} {v:Value} {x:UH}:Val ρ v x↔v = .int .u16 (x.n:Int) :=
  ⟨fun ⟨cs,h1,h2⟩=>by rw [h2,show cs = [.int .u16 (x.n:Int)] from h1]; rfl,fun h=>⟨[v],by rw [h]; rfl,rfl⟩⟩
theorem ty68:GoTy Tryd.prog 68 UH:=⟨⟨_,Tryd.underlying68,rfl⟩,⟨_,Ab Tryd.typeInfo68,rfl⟩⟩
theorem y_load_uh {P:Program} {ρ:Ro} {e:Env} {ty t:TypeId} {x:Operand} {p:Value} {a:UH} (hT:GoTy P t UH) (hx:Af e x = p) (hp:At ρ p a):Yld P ρ e (.load t x) ty (.int .u16 (a.n:Int)):=by
  obtain ⟨v,h1,h2⟩:=Ax (ty:=ty) hT hx hp
  rw [val_uh.1 h1] at h2; exact h2
theorem dec_uh {t:TypeId} (ht:Tryd.prog.underlying t = some (.int .u16)) (hc:Tryd.prog.cellsOf t = 1):Apq UH t :=
  ⟨hc,fun H enc W fuel cs x h _=>by
    obtain ⟨n,h1,_,h3⟩:=DataW.trod_int ht h
    simp [Lit.wf,IntKind.min,IntKind.max,IntKind.signed,IntKind.bits] at h3
    refine ⟨⟨n.toNat,by omega⟩,?_⟩
    show cs = [.int .u16 ((n.toNat:Nat):Int)]
    rw [h1,Int.toNat_of_nonneg (by omega)]⟩
section
variable {H:Type} {enc:TypeId × Value→H} {W:World} {r:Reach} {base t:Nat} {v:Value} {d:DataW H} {p:List MemPlace}
set_option maxRecDepth 100000 in
theorem arg_u8 (ht:Tryd.prog.underlying t = some (.int .u8)) (hv:Value.okWide Tryd.prog W r base t v) (h:DataW.Trod enc Tryd.prog W 0 (fun _=>true) true t v d p):∃ n:Nat,v = .int .u8 (n:Int)∧n < 256:=by
  obtain ⟨n,rfl⟩:=okWide_int ht hv
  obtain ⟨fuel,hf⟩:=h
  obtain ⟨m,h1,_,h3⟩:=DataW.trod_int (cs:=[.int .u8 n]) ht hf
  simp [Lit.wf,IntKind.min,IntKind.max,IntKind.signed,IntKind.bits] at h3
  obtain rfl:n = m:=by simpa using h1
  exact ⟨n.toNat,by rw [Int.toNat_of_nonneg (by omega)],by omega⟩
end
/-- The k-th choice,or 0. -/
def chooseN (l:List UH) (k:Nat):Nat:=match l[k]? with | some x=>x.n | none=>0
theorem chooseN_lt {l:List UH} {k:Nat}:chooseN l k < 65536:=by
  unfold chooseN; split
  · rename_i x _; exact x.lt
  · decide
theorem chooseN_at {l:List UH} {k:Nat} {x:UH} (h:l[k]? = some x):chooseN l k = x.n:=by unfold chooseN; rw [h]
theorem chooseN_out {l:List UH} {k:Nat} (h:l.length ≤ k):chooseN l k = 0:=by unfold chooseN; rw [List.getElem?_eq_none h]
end Go.Proofs.YtoefdnbaklajeaaDoor

namespace Go.Proofs.YtoefdnbaklajeaaDoor
open Go
theorem bel_1 {xs:List Nat} {k s:Nat} (hs:s ∈ xs) (h:Pt xs k = 1):Cu s k = true:=by
  unfold Pt at h
  split at h
  · cases h
  · split at h
    · rename_i h2
      have:=List.any_eq_false.1 (Afj.1 h2) s hs
      simpa using this
    · cases h
theorem bel_2 {xs:List Nat} {k s:Nat} (hs:s ∈ xs) (h:Pt xs k = 2):Cu s k = false:=by
  unfold Pt at h
  split at h
  · rename_i h2
    have:=List.any_eq_false.1 (Aat.1 h2) s hs
    simpa using this
  · split at h <;> cases h
end Go.Proofs.YtoefdnbaklajeaaDoor

namespace Go.Proofs.YtoefdnbaklajeaaDoor
open Go
theorem fold_after {l:Lab}:∀ (rs:List Found) (xs:List Nat),rs.foldl (Au l) xs = xs.filter fun s=>rs.all fun r=>Qg l r s
  | [],xs=>(List.filter_eq_self.2 fun _ _=>rfl).symm
  | r :: rs,xs=>by
    rw [List.foldl_cons,fold_after rs]
    unfold Au
    rw [List.filter_filter]
    congr 1
    funext s
    rw [List.all_cons,Bool.and_comm]
theorem remain_filter {l:Lab} {rs:List Found}:Ba l rs = (Hk l).filter fun s=>rs.all fun r=>Qg l r s:=fold_after rs _
theorem mem_remain {l:Lab} {rs:List Found} {s:Nat}:s ∈ Ba l rs↔s ∈ Hk l∧∀ r ∈ rs,Qg l r s = true:=by
  rw [remain_filter,List.mem_filter,List.all_eq_true]
theorem remain_one {l:Lab} {rs:List Found} {r:Found}:Ba l (rs ++ [r]) = Au l (Ba l rs) r:=by
  unfold Ba; rw [List.foldl_append]; rfl
theorem resOk_mem {l:Lab} {rs:List Found}:ResOk l rs↔∀ r ∈ rs,0 ≤ r.test∧r.test < (l.tests.length:Int):=by
  constructor
  · intro h r hr
    obtain ⟨i,hi⟩:=List.getElem?_of_mem hr
    exact h i r hi
  · intro h i r hr
    exact h r (List.mem_of_getElem? hr)
theorem resF_ok {l:Lab} {rs:List Found} (h:Gj l = 0) (hr:ResOk l rs) (hn:rs.length ≤ 8):Hw l rs = 0:=by
  unfold Hw
  rw [Jr]
  refine ⟨h,?_⟩
  rw [if_neg (by omega)]
  refine Fz.2 fun j hj=>?_
  have hx:rs[j]? = some rs[j]:=List.getElem?_eq_getElem hj
  simp only [Vw,hx]
  have:=hr j _ hx
  rw [if_pos (Ge.2 ⟨by omega,by omega⟩)]
theorem checkF_ok {l:Lab} {rs:List Found} (h:Hw l rs = 0) (hn:Ba l rs ≠ []):Cw l rs = 0:=by
  unfold Cw
  rw [Jr]
  refine ⟨h,?_⟩
  rw [if_neg]
  rw [Fe]
  have:(Ba l rs).length ≠ 0:=fun h=>hn (List.eq_nil_of_length_eq_zero h)
  omega
theorem sets_0 {l:Lab} (ok:LabOk l):0 ∈ Hk l:=by
  unfold Hk
  rw [List.mem_filter,List.mem_range]
  have:=ok.most.1
  refine ⟨(Rj ok.n4).1,?_⟩
  have e:De 0 = 0:=by decide
  unfold Adf
  rw [e]
  exact decide_eq_true this
theorem sets_lt {l:Lab} (ok:LabOk l) {s:Nat} (h:s ∈ Hk l):s < 16:=(Qp ok (rs:=[])).2 s h
theorem can_one {t:FTest} {s:Nat} (h:Afm t s true = false):Afm t s false = true:=by
  unfold Afm at h ⊢
  simp only [if_true,Bool.or_eq_false_iff] at h
  rw [if_neg (by decide),Bool.not_eq_true']
  rw [List.any_eq_false]
  intro k hk
  have h2:=List.any_eq_false.1 h.2 k hk
  unfold Ahz at h2
  unfold Akd
  cases hb:Cu s k with
  | false=>simp
  | true =>
    rw [hb] at h2
    cases hx:t.sees[k]? with
    | none=>simp
    | some b =>
      rw [hx] at h2
      simp only [Bool.true_and,bne_iff_ne,ne_eq,Decidable.not_not] at h2
      simp [h2]
theorem true_law {l:Lab} {rs:List Found} {set:Nat} (h:Gj l = 0) (hr:ResOk l rs) (hn:rs.length ≤ 8) (hs:set ∈ Hk l) (hk:∀ r ∈ rs,Qg l r set = true) :
    Cw l rs = 0∧firstV l rs = .tuple #[.int .i64 (-1),.int .i64 0]∧(Sk l rs).length = l.kinds.length∧∀ (k:Nat) (b:Int),(Sk l rs)[k]? = some b→(b = 1→Cu set k = true)∧(b = 2→Cu set k = false):=by
  have hm:set ∈ Ba l rs:=mem_remain.2 ⟨hs,hk⟩
  have hres:=resF_ok h hr hn
  have hc:=checkF_ok hres (List.ne_nil_of_mem hm)
  refine ⟨hc,?_,?_,?_⟩
  · unfold firstV
    rw [if_pos hres]
    have:firstI l rs = -1:=by
      unfold firstI
      rw [Ep]
      intro j hj
      unfold firstAt
      have h2:set ∈ Ba l (rs.take (j + 1)):=mem_remain.2 ⟨hs,fun r hr=>hk r (List.mem_of_mem_take hr)⟩
      have h3:=List.length_pos_of_mem h2
      rw [Fe]
      have:((Ba l (rs.take (j + 1))).length:Int) ≠ 0:=by omega
      simpa using this
    rw [this]
  · unfold Sk; rw [if_pos hc]; simp
  · intro k b hb
    unfold Sk at hb
    rw [if_pos hc,List.getElem?_map] at hb
    obtain ⟨a,ha,rfl⟩:=Option.map_eq_some_iff.1 hb
    obtain ⟨_,h2⟩:=List.getElem?_eq_some_iff.1 ha
    simp only [List.getElem_range] at h2
    subst h2
    exact ⟨bel_1 hm,bel_2 hm⟩
theorem settled_iff {xs:List Nat}:Dz (Bw xs) = true↔(∀ x ∈ xs,x = 0)∨(∀ x ∈ xs,x ≠ 0):=by
  constructor
  · intro h
    cases xs with
    | nil=>exact .inl fun x hx=>by cases hx
    | cons y ys =>
      have key:∀ x ∈ y :: ys,(x = 0↔y = 0):=fun x hx=>by
        obtain ⟨i,hi⟩:=List.getElem?_of_mem hx
        have h1:Ig (Bw (y :: ys)) i = false:=by
          cases hq:Ig (Bw (y :: ys)) i with
          | false=>rfl
          | true =>
            have:=Aei (l:=Bw (y :: ys)) (i:=i) (by rw [Fe]; exact (List.getElem?_eq_some_iff.1 hi).1) hq
            rw [this] at h; cases h
        have e1:(Bw (y :: ys))[i]? = some (x:Int):=by unfold Bw; rw [List.getElem?_map,hi]; rfl
        have e2:(Bw (y :: ys))[0]? = some (y:Int):=rfl
        unfold Ig at h1
        rw [e1,e2] at h1
        simp only at h1
        constructor
        · intro h2
          subst h2
          cases hy:((y:Int) == 0) with
          | true=>have:=eq_of_beq hy; omega
          | false=>rw [hy] at h1; cases h1
        · intro h2
          subst h2
          cases hy:((x:Int) == 0) with
          | true=>have:=eq_of_beq hy; omega
          | false=>rw [hy] at h1; cases h1
      by_cases hy:y = 0
      · exact .inl fun x hx=>(key x hx).2 hy
      · exact .inr fun x hx h2=>hy ((key x hx).1 h2)
  · intro h
    refine Aep fun j hj=>?_
    rw [Fe] at hj
    have hx:xs[j]? = some xs[j]:=List.getElem?_eq_getElem hj
    have h0:xs[0]? = some xs[0]:=List.getElem?_eq_getElem (by omega)
    have e1:(Bw xs)[j]? = some ((xs[j]:Nat):Int):=by simp [Bw,List.getElem?_map,hx]
    have e2:(Bw xs)[0]? = some ((xs[0]:Nat):Int):=by simp [Bw,List.getElem?_map,h0]
    unfold Ig
    rw [e1,e2]
    simp only
    rcases h with h | h
    · rw [h _ (List.getElem_mem hj),h xs[0] (List.getElem_mem _)]; rfl
    · have a1:=h _ (List.getElem_mem hj)
      have a2:=h xs[0] (List.getElem_mem (by omega))
      have b1:(((xs[j]:Nat):Int) == 0) = false:=by rw [beq_eq_false_iff_ne]; omega
      have b2:(((xs[0]:Nat):Int) == 0) = false:=by rw [beq_eq_false_iff_ne]; omega
      rw [b1,b2]; rfl
theorem dep_settled {l:Lab} {xs:List Nat} {left:Nat} (hl:left < 32) (hs:Dz (Bw xs) = true):dep l xs left = some 0:=by
  rw [Un hl,if_pos hs]
theorem full_lt {n:Nat} (h:n ≤ 5):1 <<< n - 1 < 32:=by
  have:=(Ame h).2; omega
def hgtR (F:List FNode):Nat→Int→Nat
  | 0,_=>0
  | f + 1,a=>if a < 0∨a ≥ (F.length:Int) then 0 else match F[a.toNat]? with
      | some n=>1 + max (hgtR F f n.found) (hgtR F f n.not)
      | none=>0
def hgt (F:List FNode) (a:Int):Nat:=hgtR F (F.length - a.toNat) a
theorem hgtR_neg {F:List FNode}:∀ k,hgtR F k (-1) = 0
  | 0=>rfl
  | k + 1=>by simp [hgtR]
theorem hgtR_fuel {l:Lab} {F:List FNode} (ok:NodeOk l F):∀ (f g:Nat) (a:Int),F.length - a.toNat ≤ f→F.length - a.toNat ≤ g→hgtR F f a = hgtR F g a:=by
  intro f
  induction f with
  | zero =>
    intro g a h1 h2
    cases g with
    | zero=>rfl
    | succ g =>
      by_cases hc:a < 0∨a ≥ (F.length:Int)
      · simp only [hgtR]; rw [if_pos hc]
      · omega
  | succ f ih =>
    intro g a h1 h2
    by_cases hc:a < 0∨a ≥ (F.length:Int)
    · cases g with
      | zero=>simp only [hgtR]; rw [if_pos hc]
      | succ g=>simp only [hgtR]; rw [if_pos hc,if_pos hc]
    · cases g with
      | zero=>omega
      | succ g =>
        simp only [hgtR]
        rw [if_neg hc,if_neg hc]
        cases hn:F[a.toNat]? with
        | none=>rfl
        | some n =>
          have h3:=ok.found _ n hn
          have h4:=ok.not _ n hn
          have key:∀ c:Int,(c = -1∨((a.toNat:Int) + 1 ≤ c∧c < (F.length:Int)))→hgtR F f c = hgtR F g c:=fun c hc'=>by
            rcases hc' with rfl | hc'
            · rw [hgtR_neg,hgtR_neg]
            · exact ih g c (by omega) (by omega)
          simp only
          rw [key _ h3,key _ h4]
theorem hgt_end {F:List FNode} {a:Int} (h:a < 0∨a ≥ (F.length:Int)):hgt F a = 0:=by
  unfold hgt
  cases F.length - a.toNat with
  | zero=>rfl
  | succ f=>simp only [hgtR]; rw [if_pos h]
theorem hgt_step {l:Lab} {F:List FNode} (ok:NodeOk l F) {a:Int} {n:FNode} (h:¬ (a < 0∨a ≥ (F.length:Int))) (hn:F[a.toNat]? = some n):hgt F a = 1 + max (hgt F n.found) (hgt F n.not):=by
  have hlt:=(List.getElem?_eq_some_iff.1 hn).1
  have h1:=ok.found _ n hn
  have h2:=ok.not _ n hn
  obtain ⟨f,hf⟩:∃ f,F.length - a.toNat = f + 1:=⟨F.length - a.toNat - 1,by omega⟩
  have key:∀ c:Int,(c = -1∨((a.toNat:Int) + 1 ≤ c∧c < (F.length:Int)))→hgtR F f c = hgt F c:=fun c hc'=>by
    rcases hc' with rfl | hc'
    · unfold hgt; rw [hgtR_neg,hgtR_neg]
    · exact hgtR_fuel ok f _ c (by omega) (Nat.le_refl _)
  unfold hgt
  rw [hf]
  simp only [hgtR]
  rw [if_neg h,hn]
  simp only
  rw [key _ h1,key _ h2]
  rfl
theorem grown_law {l:Lab}:∀ (k left:Nat),left < 32→De left = k→∀ (T0:List FNode) (sets:List Nat) (d:Nat),dep l sets left = some d →
    (∀ i,i < T0.length→(Bp l T0 sets left).1[i]? = T0[i]?)∧T0.length ≤ (Bp l T0 sets left).1.length∧(Bp l T0 sets left).1.length + 1 ≤ T0.length + 2 ^ k ∧
    (((Bp l T0 sets left).2 = -1∧d = 0∧Dz (Bw sets) = true∧(Bp l T0 sets left).1 = T0)∨((Bp l T0 sets left).2 = (T0.length:Int)∧T0.length < (Bp l T0 sets left).1.length∧0 < d)) ∧
    (∀ (i:Nat) (n:FNode),T0.length ≤ i→(Bp l T0 sets left).1[i]? = some n→(0 ≤ n.test∧n.test < (l.tests.length:Int))∧(n.found = -1∨((i:Int) + 1 ≤ n.found∧n.found < ((Bp l T0 sets left).1.length:Int)))∧(n.not = -1∨((i:Int) + 1 ≤ n.not∧n.not < ((Bp l T0 sets left).1.length:Int)))) ∧
    (∀ F:List FNode,NodeOk l F→(∀ i,T0.length ≤ i→i < (Bp l T0 sets left).1.length→F[i]? = (Bp l T0 sets left).1[i]?)→endsF l F (Bp l T0 sets left).2 sets = true∧hgt F (Bp l T0 sets left).2 = d):=by
  intro k
  induction k with
  | zero =>
    intro left hl hp T0 sets d hd
    have h0:=Ahx hl hp
    have hs:Dz (Bw sets) = true:=by
      cases hs:Dz (Bw sets) with
      | true=>rfl
      | false =>
        have:=(Add hl hd hs).2.1
        rw [h0] at this; simp [Cu] at this
    rw [Ou hs]
    rw [dep_settled hl hs] at hd
    injection hd with hd
    refine ⟨fun i _=>rfl,Nat.le_refl _,by simp,.inl ⟨rfl,hd.symm,hs,rfl⟩,fun i n h1 h2=>?_,fun F _ _=>⟨?_,?_⟩⟩
    · have:=(List.getElem?_eq_some_iff.1 h2).1; simp only at this; omega
    · rw [ends_end (.inl (by show (-1:Int) < 0; omega))]; exact hs
    · rw [hgt_end (.inl (by show (-1:Int) < 0; omega))]; exact hd
  | succ k ih =>
    intro left hl hp T0 sets d hd
    cases hs:Dz (Bw sets) with
    | true =>
      rw [Ou hs]
      rw [dep_settled hl hs] at hd
      injection hd with hd
      refine ⟨fun i _=>rfl,Nat.le_refl _,?_,.inl ⟨rfl,hd.symm,rfl,rfl⟩,fun i n h1 h2=>?_,fun F _ _=>⟨?_,?_⟩⟩
      · have:1 ≤ 2 ^ (k + 1):=Nat.one_le_two_pow
        simp only; omega
      · have:=(List.getElem?_eq_some_iff.1 h2).1; simp only at this; omega
      · rw [ends_end (.inl (by show (-1:Int) < 0; omega))]; exact hs
      · rw [hgt_end (.inl (by show (-1:Int) < 0; omega))]; exact hd
    | false =>
      obtain ⟨ht,hb,hw,_⟩:=Add hl hd hs
      obtain ⟨a,b,ha,hb',hab⟩:=Wj hw
      obtain ⟨h1,h2⟩:=Og hl hb
      have hgs:=Hx (tree:=T0) hl hd hs
      dsimp only at hgs
      rw [hgs]
      clear hgs
      generalize Dn l sets left = t at *
      have hp':De (left - 1 <<< t) = k:=by omega
      have hl':left - 1 <<< t < 32:=Nat.lt_of_le_of_lt (Nat.sub_le _ _) hl
      obtain ⟨a1,a2,a3,a4,a5,a6⟩:=ih _ hl' hp' (T0 ++ [⟨(t:Int),0,0⟩]) (Au l sets (fT t true)) a ha
      generalize Bp l (T0 ++ [⟨(t:Int),0,0⟩]) (Au l sets (fT t true)) (left - 1 <<< t) = g1 at *
      obtain ⟨b1,b2,b3,b4,b5,b6⟩:=ih _ hl' hp' g1.1 (Au l sets (fT t false)) b hb'
      generalize hg2:Bp l g1.1 (Au l sets (fT t false)) (left - 1 <<< t) = g2 at *
      simp only [List.length_append,List.length_singleton] at a2 a3 a4 a5 a6
      simp only [hg2,List.length_set]
      have hpow:2 ^ (k + 1) = 2 ^ k + 2 ^ k:=by rw [Nat.pow_succ]; omega
      have hset:∀ i,i ≠ T0.length→(g2.1.set T0.length ⟨(t:Int),g1.2,g2.2⟩)[i]? = g2.1[i]?:=fun i hi=>by
        rw [List.getElem?_set]; rw [if_neg (by omega)]
      have hset0:(g2.1.set T0.length ⟨(t:Int),g1.2,g2.2⟩)[T0.length]? = some ⟨(t:Int),g1.2,g2.2⟩:=by
        rw [List.getElem?_set,if_pos rfl,if_pos (by omega)]
      refine ⟨fun i hi=>?_,by omega,by omega,.inr ⟨trivial,by omega,by omega⟩,fun i n hi hn=>?_,fun F okF hF=>?_⟩
      · rw [hset i (by omega),b1 i (by omega),a1 i (by simp only [List.length_append,List.length_singleton]; omega),List.getElem?_append_left hi]
      · by_cases e0:i = T0.length
        · subst e0
          rw [hset0] at hn
          cases hn
          refine ⟨⟨by simp only; omega,by simp only; omega⟩,?_,?_⟩
          · rcases a4 with ⟨h,_⟩ | ⟨h,h',_⟩
            · exact .inl h
            · refine .inr ⟨?_,?_⟩ <;> simp only [h] <;> push_cast <;> omega
          · rcases b4 with ⟨h,_⟩ | ⟨h,h',_⟩
            · exact .inl h
            · refine .inr ⟨?_,?_⟩ <;> simp only [h] <;> push_cast <;> omega
        · rw [hset i e0] at hn
          rcases Nat.lt_or_ge i g1.1.length with hlt | hge
          · rw [b1 i hlt] at hn
            obtain ⟨c1,c2,c3⟩:=a5 i n (by omega) hn
            exact ⟨c1,by omega,by omega⟩
          · exact b5 i n hge hn
      · have hF0:F[T0.length]? = some ⟨(t:Int),g1.2,g2.2⟩:=by rw [hF _ (Nat.le_refl _) (by omega),hset0]
        have hFl:=(List.getElem?_eq_some_iff.1 hF0).1
        obtain ⟨c1,c2⟩:=a6 F okF fun i h3 h4=>by rw [hF i (by omega) (by omega),hset i (by omega),b1 i h4]
        obtain ⟨d1,d2⟩:=b6 F okF fun i h3 h4=>by rw [hF i (by omega) h4,hset i (by omega)]
        have hne:sets ≠ []:=fun h=>by rw [h] at hs; simp [Dz,Bw,Cl] at hs
        constructor
        · rw [ends_step okF (a:=(T0.length:Int)) (n:=⟨(t:Int),g1.2,g2.2⟩) (by rintro (h | h | h) <;> first | omega | exact hne h) (by simpa using hF0)]
          rw [show Au l sets ⟨(t:Int),true⟩ = Au l sets (fT t true) from rfl,show Au l sets ⟨(t:Int),false⟩ = Au l sets (fT t false) from rfl]
          simp only [c1,d1,Bool.and_self]
        · rw [hgt_step okF (a:=(T0.length:Int)) (n:=⟨(t:Int),g1.2,g2.2⟩) (by omega) (by simpa using hF0)]
          simp only [c2,d2]
          omega
theorem treeF_ok {l:Lab} {F:List FNode} (ok:NodeOk l F):treeF l F = 0:=by
  unfold treeF
  refine Fz.2 fun i hi=>?_
  have hn:F[i]? = some F[i]:=List.getElem?_eq_getElem hi
  have h1:=ok.test i _ hn
  have h2:=ok.found i _ hn
  have h3:=ok.not i _ hn
  simp only [nodeAt,hn]
  rw [if_pos (Ge.2 ⟨h1.1,by omega⟩),if_neg]
  simp only [Bool.or_eq_true,Bool.and_eq_true,bne_iff_ne,ne_eq,Bool.not_eq_true',not_or,not_and,Bool.not_eq_false]
  refine ⟨fun e=>?_,fun e=>?_⟩
  · rcases h2 with h2 | h2
    · exact absurd h2 e
    · exact Ge.2 ⟨by push_cast; omega,by omega⟩
  · rcases h3 with h3 | h3
    · exact absurd h3 e
    · exact Ge.2 ⟨by push_cast; omega,by omega⟩
/-- What is so of the tree that Tree returns. -/
theorem tree_law {l:Lab} {rs:List Found} (h:Cw l rs = 0) (hB:Yl l rs = true) :
    NodeOk l (Za l rs)∧endsF l (Za l rs) 0 (Ba l rs) = true∧((hgt (Za l rs) 0:Nat):Int) = Xx l rs∧(Za l rs).length ≤ 31∧0 ≤ Xx l rs∧Xx l rs ≤ (l.tests.length:Int)∧(Xx l rs = 0↔Za l rs = [])∧dep l (Ba l rs) (1 <<< l.tests.length - 1) = some (Xx l rs).toNat:=by
  have ok:=Lm (Abk (Xz h)).1
  have hl:=full_lt ok.ntests
  have hp:De (1 <<< l.tests.length - 1) = l.tests.length:=Air _ ok.ntests
  unfold Yl at hB
  rw [if_pos h] at hB
  obtain ⟨d,hd⟩:=Option.isSome_iff_exists.1 hB
  have hdl:=Nu hl hd
  unfold Za Xx
  rw [if_pos h,if_pos h,hd]
  simp only
  obtain ⟨_,_,h3,h4,h5,h6⟩:=grown_law _ _ hl rfl [] (Ba l rs) d hd
  generalize hg:Bp l [] (Ba l rs) (1 <<< l.tests.length - 1) = g at *
  have okF:NodeOk l g.1:=⟨fun i n hn=>(h5 i n (Nat.zero_le _) hn).1,fun i n hn=>(h5 i n (Nat.zero_le _) hn).2.1,fun i n hn=>(h5 i n (Nat.zero_le _) hn).2.2⟩
  obtain ⟨e1,e2⟩:=h6 g.1 okF fun i _ _=>rfl
  have h31:g.1.length ≤ 31:=by
    rw [hp] at h3
    have:2 ^ l.tests.length ≤ 2 ^ 5:=Nat.pow_le_pow_right (by omega) ok.ntests
    simp only [List.length_nil] at h3
    omega
  refine ⟨okF,?_,?_,h31,by omega,by omega,?_,by simp⟩
  · rcases h4 with ⟨_,_,f3,f4⟩ | ⟨f1,_,_⟩
    · rw [f4,ends_end (.inr (.inl (by simp)))]; exact f3
    · rw [f1] at e1; exact e1
  · rcases h4 with ⟨_,f2,_,f4⟩ | ⟨f1,_,_⟩
    · rw [f4,hgt_end (.inr (by simp)),f2]
    · rw [f1] at e2; rw [← e2]; rfl
  · rcases h4 with ⟨_,f2,_,f4⟩ | ⟨_,f2,f3⟩
    · rw [f4,f2]; simp
    · constructor
      · intro; omega
      · intro h; rw [h] at f2; simp at f2
theorem tree_none {l:Lab} {rs:List Found} (hB:Yl l rs = false):Za l rs = []∧Xx l rs = 0:=by
  unfold Yl at hB
  unfold Za Xx
  split
  · rename_i h
    rw [if_pos h] at hB
    cases hd:dep l (Ba l rs) (1 <<< l.tests.length - 1) with
    | none=>exact ⟨rfl,rfl⟩
    | some d=>rw [hd] at hB; cases hB
  · exact ⟨rfl,rfl⟩
end Go.Proofs.YtoefdnbaklajeaaDoor

namespace Go.Proofs.YtoefdnbaklajeaaDoor
open Go
set_option maxRecDepth 100000 in
theorem c_choose {mn:Bool} {X:Frame→List Frame→Ro→Own→Cy→Prop} {ρ:Ro} {σ:Own} {picks:List UH} {vk:Value} {k:Nat} (rk:Val ρ vk picks):CallsH (CX mn X) 30 #[vk,(iV ((k:Int)))] ρ σ (fun w ρ' σ'=>ρ' = ρ∧σ' = σ∧w = (iV (((chooseN picks k:Nat):Int)))):=by
 refine Bh (n:=14) (args:=[vk,(iV ((k:Int)))]) [4] Tryd.func30 rfl rfl rfl rfl fun Q hret hnor=>?_
 refine w_q rfl rfl fun K1 k1=>?_
 refine l_A (iV (0)) rfl rfl ?_
 apply Ac
 apply k1
 refine Ai fun K2 k2=>?_
 refine w_q rfl rfl fun K3 k3=>?_
 refine l_M (iV ((k:Int))) rfl rfl ?_
 refine l_M vk rfl rfl ?_
 have g4:=Val.len rk
 refine Aa rfl (Ce (el:=68) Tryd.underlying55 rfl rk) ?_
 refine Aa rfl (Da (p:=(k:Int)) (q:=((picks.length:Nat):Int)) rfl rfl) ?_
 apply Ac
 apply k3
 refine As (t:=decide ((k:Int) < ((picks.length:Nat):Int))) rfl (fun b5=>?_) (fun b5=>?_)
 ·have q5:=of_decide_eq_true b5
  refine w_q rfl rfl fun K6 k6=>?_
  refine l_M vk rfl rfl ?_
  refine l_M (iV ((k:Int))) rfl rfl ?_
  obtain ⟨a8,ha8⟩:=Ed (xs:=picks) (i:=k) (by omega)
  refine Ak rfl (Ci k Tryd.underlying55 ty68 rfl rk (q:=(k:Int)) rfl rfl ha8) fun v7 r7=>?_
  have g9:=a8.lt
  refine Aa rfl (y_load_uh ty68 rfl r7) ?_
  refine Aa rfl (Abu (p:=((a8.n:Nat):Int)) (z:=((a8.n:Nat):Int)) Tryd.underlying68 Tryd.underlying3 rfl (Bo rfl (by omega) (by omega))) ?_
  refine l_A (iV (((a8.n:Nat):Int))) rfl rfl ?_
  apply Ac
  apply k6
  refine Aq ?_
  refine hret _ _ _ ?_
  refine ⟨rfl,rfl,Eq.trans (b:=(iV (((a8.n:Nat):Int)))) rfl ?_⟩
  rw [chooseN_at ha8]
 have q5:=of_decide_eq_false b5
 refine Al ?_
 apply k2
 refine w_q rfl rfl fun K10 k10=>?_
 refine l_A (iV (0)) rfl rfl ?_
 apply Ac
 apply k10
 refine Aq ?_
 refine hret _ _ _ ?_
 refine ⟨rfl,rfl,Eq.trans (b:=(iV (0))) rfl ?_⟩
 rw [chooseN_out (by omega)]; rfl
end Go.Proofs.YtoefdnbaklajeaaDoor

namespace Go.Proofs.YtoefdnbaklajeaaDoor
open Go
/-- A set of kinds that can be in a tin,as is chosen. -/
def realN (l:Lab) (k:Nat):Nat:=(Hk l).getD (k % (Bw (Hk l)).length) 0
theorem sets_pos {l:Lab} (ok:LabOk l):0 < (Bw (Hk l)).length:=by
 rw [Fe]; exact List.length_pos_of_mem (sets_0 ok)
theorem real_at {l:Lab} {k b:Nat} (h:(Hk l)[k % (Bw (Hk l)).length]? = some b):realN l k = b:=by
 unfold realN; rw [List.getD_eq_getElem?_getD,h]; rfl
theorem real_in {l:Lab} {k:Nat} (ok:LabOk l):realN l k ∈ Hk l:=by
 have h:=Nat.mod_lt k (sets_pos ok)
 have h2:k % (Bw (Hk l)).length < (Hk l).length:=by rw [Fe] at h ⊢; exact h
 rw [real_at (List.getElem?_eq_getElem h2)]
 exact List.getElem_mem h2
/-- What a test shows of a tin,as is chosen. -/
def shownB (l:Lab) (set t pick:Nat):Bool:=match l.tests[t]? with
 | some x=>Afm x set true && (pick % 2 == 1 || !Afm x set false)
 | none=>false
theorem shown_keep {l:Lab} {set t pick:Nat} (ht:t < l.tests.length):Qg l ⟨(t:Int),shownB l set t pick⟩ set = true:=by
 have hx:l.tests[t]? = some l.tests[t]:=List.getElem?_eq_getElem ht
 unfold Qg
 simp only [Int.toNat_natCast,hx]
 unfold shownB
 rw [hx]
 simp only
 cases h1:Afm l.tests[t] set true with
 | false=>simp only [Bool.false_and]; exact can_one h1
 | true =>
  cases h2:Afm l.tests[t] set false with
  | false=>simp [h1]
  | true =>
   cases h3:pick % 2 == 1 with
   | true=>simp [h1]
   | false=>simp [h2]
def shownAt (l:Lab) (set:Nat) (picks:List UH) (i:Nat):Found:=⟨((chooseN picks (2 * i) % l.tests.length:Nat):Int),shownB l set (chooseN picks (2 * i) % l.tests.length) (chooseN picks (2 * i + 1))⟩
def shownL (l:Lab) (set:Nat) (picks:List UH) (many:Nat):List Found:=if l.tests.length = 0 then [] else (List.range many).map (shownAt l set picks)
theorem shown_law {l:Lab} {set many:Nat} {picks:List UH}:ResOk l (shownL l set picks many)∧(shownL l set picks many).length ≤ many∧∀ r ∈ shownL l set picks many,Qg l r set = true:=by
 unfold shownL
 split
 ·exact ⟨fun i r h=>(by cases h),Nat.zero_le _,fun r h=>(by cases h)⟩
 ·rename_i h0
  have key:∀ r ∈ (List.range many).map (shownAt l set picks),(0 ≤ r.test∧r.test < (l.tests.length:Int))∧Qg l r set = true:=fun r hr=>by
   obtain ⟨i,_,rfl⟩:=List.mem_map.1 hr
   have hm:=Nat.mod_lt (chooseN picks (2 * i)) (Nat.pos_of_ne_zero h0)
   exact ⟨⟨Int.natCast_nonneg _,Int.ofNat_lt.2 hm⟩,shown_keep hm⟩
  exact ⟨resOk_mem.2 fun r hr=>(key r hr).1,by simp,fun r hr=>(key r hr).2⟩
set_option maxRecDepth 100000 in
theorem c_real {mn:Bool} {X:Frame→List Frame→Ro→Own→Cy→Prop} {ρ:Ro} {σ:Own} {l:Lab} {vl:Value} {pick:Nat} (rl:Val ρ vl l) (ok:LabOk l) (hp:pick < 65536):CallsH (CX mn X) 47 #[vl,(iV ((pick:Int)))] ρ σ (fun w ρ' σ'=>ρ' = ρ∧σ' = σ∧w = (iV (((realN l pick:Nat):Int)))):=by
 have hsp:=sets_pos ok
 have hml:=Nat.mod_lt pick hsp
 refine Bh (n:=15) (args:=[vl,(iV ((pick:Int)))]) [4] Tryd.func47 rfl rfl rfl rfl fun Q hret hnor=>?_
 refine w_q rfl rfl fun K1 k1=>?_
 refine Ae rfl (Eb (v:=vl) rfl fun k2=>?_)
 refine Bb (a:=l) rl fun ρ2 l2 r2=>?_
 replace rl:=Asa l2 rl
 refine l_A (iV (0)) rfl rfl ?_
 apply Ac
 apply k1
 refine w_q rfl rfl fun K3 k3=>?_
 refine Ak rfl (Ax Aaj rfl r2) fun v4 r4=>?_
 refine Ae rfl (Cm (vs:=[v4]) (c_refSets r4 ok) Tryd.func101 rfl rfl ⟨rfl,trivial⟩ fun v5 ρ5 σ5 hc5=>?_)
 obtain ⟨l5,s5,r5⟩:=hc5
 replace s5:=s5.symm; subst s5
 replace r2:=Arv l5 r2
 replace r4:=Asa l5 r4
 refine l_A v5 rfl rfl ?_
 apply Ac
 apply k3
 refine w_q rfl rfl fun K6 k6=>?_
 refine l_M v5 rfl rfl ?_
 refine l_M (iV ((pick:Int))) rfl rfl ?_
 refine l_M v5 rfl rfl ?_
 have g7:=Val.len r5
 refine Aa rfl (Ce (el:=3) Tryd.underlying30 rfl r5) ?_
 refine Aa rfl (y_rem (p:=(pick:Int)) (q:=(((Bw (Hk l)).length:Nat):Int)) rfl rfl (by omega) (z:=(((pick % (Bw (Hk l)).length):Nat):Int)) rfl) ?_
 obtain ⟨a9,ha9⟩:=Ed (xs:=Bw (Hk l)) (i:=(pick % (Bw (Hk l)).length)) (by omega)
 obtain ⟨b10,hb10,hz10⟩:=Uc ha9
 subst hz10
 refine Ak rfl (Ci ((pick % (Bw (Hk l)).length)) Tryd.underlying30 ty3 rfl r5 (q:=(((pick % (Bw (Hk l)).length):Nat):Int)) rfl rfl ha9) fun v8 r8=>?_
 have ⟨g11a,g11b⟩:=At.rng r8
 refine Aa rfl (Bc ty3 rfl r8) ?_
 refine l_A (iV ((b10:Int))) rfl rfl ?_
 apply Ac
 apply k6
 refine Aj (Arw (Arz l2 l5)) ?_
 refine Aq ?_
 refine hret _ _ _ ?_
 refine ⟨rfl,rfl,Eq.trans (b:=(iV ((b10:Int)))) rfl ?_⟩
 rw [real_at hb10]
set_option maxRecDepth 100000 in
theorem c_shown {mn:Bool} {X:Frame→List Frame→Ro→Own→Cy→Prop} {ρ:Ro} {σ:Own} {l:Lab} {vl:Value} {set t pick:Nat} (rl:Val ρ vl l) (hs:set < 65536) (ht:t < l.tests.length) (hp:pick < 65536):CallsH (CX mn X) 54 #[vl,(iV ((set:Int))),(iV ((t:Int))),(iV ((pick:Int)))] ρ σ (fun w ρ' σ'=>ρ' = ρ∧σ' = σ∧w = (.bool (shownB l set t pick))):=by
 refine Bh (n:=28) (args:=[vl,(iV ((set:Int))),(iV ((t:Int))),(iV ((pick:Int)))]) [8] Tryd.func54 rfl rfl rfl rfl fun Q hret hnor=>?_
 refine w_q rfl rfl fun K1 k1=>?_
 refine Ae rfl (Eb (v:=vl) rfl fun k2=>?_)
 refine Bb (a:=l) rl fun ρ2 l2 r2=>?_
 replace rl:=Asa l2 rl
 refine l_A (.bool (false)) rfl rfl ?_
 apply Ac
 apply k1
 refine w_q rfl rfl fun K3 k3=>?_
 refine Ak rfl (Ay Lab.f_tests Tryd.underlying40 rfl rfl Vd (by decide) rfl r2) fun v4 r4=>?_
 refine Ak rfl (Ax Vd rfl r4) fun v5 r5=>?_
 refine l_M (iV ((t:Int))) rfl rfl ?_
 obtain ⟨a7,ha7⟩:=Ed (xs:=l.tests) (i:=t) (by omega)
 refine Ak rfl (Ci t Tryd.underlying38 Td rfl r5 (q:=(t:Int)) rfl rfl ha7) fun v6 r6=>?_
 refine Ak rfl (Ax Td rfl r6) fun v8 r8=>?_
 refine Ae rfl (Ct Vm fun k9=>?_)
 refine Cx rfl (Du (v:=v8) (a:=a7) (c:=Aaf) Td rfl rfl r8 rfl ?_)
 refine Bb (a:=a7) r8 fun ρ10 l10 r10=>?_
 replace r2:=Arv l10 r2
 replace r4:=Arv l10 r4
 replace r5:=Asa l10 r5
 replace r6:=Arv l10 r6
 replace r8:=Asa l10 r8
 apply Ac
 apply k3
 refine Ai fun K11 k11=>?_
 refine w_q rfl rfl fun K12 k12=>?_
 refine Ak rfl (Ax Td rfl r10) fun v13 r13=>?_
 refine l_M (iV ((set:Int))) rfl rfl ?_
 refine Ae rfl (Bn (vs:=[v13,(iV ((set:Int))),(.bool (true))]) (v:=(.bool (Afm a7 set true))) (c_Can r13 (by omega)) Tryd.func107 rfl rfl ⟨rfl,rfl,rfl,trivial⟩ ?_)
 refine Aa rfl (Ix (k:=Afm a7 set true) rfl) ?_
 apply Ac
 apply k12
 refine As (t:=!(Afm a7 set true)) rfl (fun b14=>?_) (fun b14=>?_)
 ·have b15:=not_eq_t b14
  refine w_q rfl rfl fun K16 k16=>?_
  refine l_A (.bool (false)) rfl rfl ?_
  apply Ac
  apply k16
  refine Aj (Arw (Arz l2 l10)) ?_
  refine Aq ?_
  refine hret _ _ _ ?_
  refine ⟨rfl,rfl,Eq.trans (b:=(.bool (false))) rfl ?_⟩
  simp [shownB,ha7,b14,b15]
  first | done | exact .inl (by omega) | (intro h; omega)
 have b17:=not_eq_f b14
 refine Al ?_
 apply k11
 refine w_q rfl rfl fun K18 k18=>?_
 refine l_M (iV ((pick:Int))) rfl rfl ?_
 refine Aa rfl (y_rem (p:=(pick:Int)) (q:=2) rfl rfl (by omega) (z:=(((pick % 2):Nat):Int)) rfl) ?_
 refine Aa rfl (Ek (p:=(((pick % 2):Nat):Int)) (q:=1) rfl rfl) ?_
 refine l_M (.bool ((((pick % 2):Nat):Int) == 1)) rfl rfl ?_
 refine Cn ((((pick % 2):Nat):Int) == 1) (fun b19=>?_) (fun b19=>?_)
 ·have q19:=Jo b19
  refine Ap (Bl rfl rfl rfl b19) ?_
  refine Ap (Bl rfl rfl rfl b19) ?_
  refine Ap (Bl rfl rfl rfl b19) ?_
  refine Ap (Bl rfl rfl rfl b19) ?_
  refine Aa rfl (Bt rfl b19 (v:=(.bool (true))) rfl) ?_
  refine l_A (.bool (true)) rfl rfl ?_
  apply Ac
  apply k18
  refine Aj (Arw (Arz l2 l10)) ?_
  refine Aq ?_
  refine hret _ _ _ ?_
  refine ⟨rfl,rfl,Eq.trans (b:=(.bool (true))) rfl ?_⟩
  simp [shownB,ha7,b14,b17,b19]
  first | done | exact .inl (by omega) | (intro h; omega)
 have q19:=La b19
 refine Ak (Ar rfl rfl rfl b19) (Ax Td rfl r10) fun v20 r20=>?_
 refine l_M (iV ((set:Int))) (Ar rfl rfl rfl b19) rfl ?_
 refine Ae (Ar rfl rfl rfl b19) (Bn (vs:=[v20,(iV ((set:Int))),(.bool (false))]) (v:=(.bool (Afm a7 set false))) (c_Can r20 (by omega)) Tryd.func107 rfl rfl ⟨rfl,rfl,rfl,trivial⟩ ?_)
 refine Aa (Ar rfl rfl rfl b19) (Ix (k:=Afm a7 set false) rfl) ?_
 refine Aa rfl (Bm rfl b19 (v:=(.bool (!(Afm a7 set false)))) rfl) ?_
 refine l_A (.bool (!(Afm a7 set false))) rfl rfl ?_
 apply Ac
 apply k18
 refine Aj (Arw (Arz l2 l10)) ?_
 refine Aq ?_
 refine hret _ _ _ ?_
 refine ⟨rfl,rfl,Eq.trans (b:=(.bool (!(Afm a7 set false)))) rfl ?_⟩
 simp [shownB,ha7,b14,b17,b19]
 first | done | exact .inl (by omega) | (intro h; omega)
end Go.Proofs.YtoefdnbaklajeaaDoor

namespace Go.Proofs.YtoefdnbaklajeaaDoor
open Go
set_option maxRecDepth 100000 in
theorem c_ShownG {mn:Bool} {X:Frame→List Frame→Ro→Own→Cy→Prop} {ρ:Ro} {σ:Own} {l:Lab} {vl vk:Value} {set many:Nat} {picks:List UH} (rl:Val ρ vl l) (rk:Val ρ vk picks) (hs:set < 65536) (hm:many ≤ 8):CallsH (CX mn X) 48 #[vl,(iV ((set:Int))),vk,(iV ((many:Int)))] ρ σ (fun w ρ' σ'=>Ro.le ρ ρ'∧∃ gr,σ' = gr ++ σ∧Grow ρ' 43 w (shownL l set picks many) gr):=by
 refine Bh (n:=46) (args:=[vl,(iV ((set:Int))),vk,(iV ((many:Int)))]) [8] Tryd.func48 rfl rfl rfl rfl fun Q hret hnor=>?_
 refine w_q rfl rfl fun K1 k1=>?_
 refine Ae rfl (Eb (v:=vl) rfl fun k2=>?_)
 refine Bb (a:=l) rl fun ρ2 l2 r2=>?_
 replace rl:=Asa l2 rl
 replace rk:=Asa l2 rk
 refine l_A (.slice none 0 0) rfl rfl ?_
 apply Ac
 apply k1
 refine w_q rfl rfl fun K3 k3=>?_
 refine l_A (.slice none 0 0) rfl rfl ?_
 apply Ac
 apply k3
 refine Ai fun K4 k4=>?_
 refine w_q rfl rfl fun K5 k5=>?_
 refine l_A (iV (0)) rfl rfl ?_
 apply Ac
 apply k5
 refine Ao ?_
 refine Cc (fun mm ee dd ρ' σ'=>∃ (i:Nat) (ov6_9:Value) (og6_9:Own),(many - i) = mm∧[] = dd∧Ro.le ρ2 ρ'∧(og6_9 ++ σ) = σ'∧ee 1 = (iV ((set:Int)))∧ee 2 = vk∧ee 3 = (iV ((many:Int)))∧ee 4 = (.pointer (some ⟨k2,0,none⟩))∧ee 9 = ov6_9∧ee 10 = (iV ((i:Int)))∧(i ≤ many)∧(l.tests.length = 0→i = 0)∧Grow ρ' 43 ov6_9 ((List.range i).map (shownAt l set picks)) og6_9∧True) (m:=_) ⟨0,(.slice none 0 0),[],rfl,rfl,Ary,rfl,rfl,rfl,rfl,rfl,rfl,rfl,(Nat.zero_le _),(fun _=>rfl),Hn,trivial⟩ ?_
 rintro m6 e6 _ ρ6 _ ⟨i,ov6_9,og6_9,rfl,rfl,l6,rfl,h6_1,h6_2,h6_3,h6_4,h6_9,h6_10,p6_0,p6_1,OG6_9,_⟩
 replace rk:=Asa l6 rk
 replace r2:=Arv l6 r2
 refine Ai fun K7 k7=>?_
 refine w_q rfl rfl fun K8 k8=>?_
 refine Aa rfl (Ah (v:=(iV ((i:Int)))) h6_10) ?_
 refine Aa rfl (Ah (v:=(iV ((many:Int)))) h6_3) ?_
 refine Aa rfl (Da (p:=(i:Int)) (q:=(many:Int)) rfl rfl) ?_
 refine l_M (.bool (decide ((i:Int) < (many:Int)))) rfl rfl ?_
 refine Cn (decide ((i:Int) < (many:Int))) (fun b9=>?_) (fun b9=>?_)
 ·have q9:=of_decide_eq_true b9
  refine Ak (Ar rfl rfl rfl b9) (Ay Lab.f_tests Tryd.underlying40 rfl rfl Vd (by decide) h6_4 r2) fun v10 r10=>?_
  refine Ak (Ar rfl rfl rfl b9) (Ax Vd rfl r10) fun v11 r11=>?_
  have g12:=Val.len r11
  refine Aa (Ar rfl rfl rfl b9) (Ce (el:=108) Tryd.underlying38 rfl r11) ?_
  refine Aa (Ar rfl rfl rfl b9) (Gk (p:=((l.tests.length:Nat):Int)) (q:=0) rfl rfl) ?_
  refine Aa rfl (Bt rfl b9 (v:=(.bool (decide (((l.tests.length:Nat):Int) > 0)))) rfl) ?_
  apply Ac
  apply k8
  refine As (t:=decide (((l.tests.length:Nat):Int) > 0)) rfl (fun b13=>?_) (fun b13=>?_)
  ·have q13:=of_decide_eq_true b13
   refine Al ?_
   apply k7
   refine Ai fun K14 k14=>?_
   refine Ao ?_
   refine Ai fun K15 k15=>?_
   refine Dc [0,1,2,3,4,5,6,7,8] (by kernel_rfl) rfl rfl ?_
   refine Be (i:=0) Aov rfl (by kernel_rfl) rfl Ary rfl (Ah (v:=vk) h6_2) ?_
   refine Be (i:=1) Aof rfl (by kernel_rfl) rfl Ary rfl (Ah (v:=(iV ((i:Int)))) h6_10) ?_
   refine Be (i:=2) Apd rfl (by kernel_rfl) rfl Ary rfl (Vz (p:=2) (q:=(i:Int)) rfl rfl (z:=(((2 * i):Nat):Int)) (Bo (by first | rfl | omega | (push_cast; rfl)) (by omega) (by omega))) ?_
   refine Cd (i:=4) [o1,o1,o1,o0,o1,o0,o0,o0,o0] rfl (by kernel_rfl) rfl Ary rfl (Ay Lab.f_tests Tryd.underlying40 rfl rfl Vd (by decide) h6_4 r2) fun v16 r16=>?_
   refine Cd (i:=5) [o1,o1,o1,o0,o1,o1,o0,o0,o0] rfl (by kernel_rfl) rfl Ary rfl (Ax Vd rfl r16) fun v17 r17=>?_
   have g18:=Val.len r17
   refine Be (i:=6) [o1,o1,o1,o0,o1,o1,o1,o0,o0] rfl (by kernel_rfl) rfl Ary rfl (Ce (el:=108) Tryd.underlying38 rfl r17) ?_
   have hch19:=chooseN_lt (l:=picks) (k:=((2 * i)))
   refine Dj (i:=3) Aow rfl (by kernel_rfl) rfl rfl (Bn (vs:=[vk,(iV ((((2 * i):Nat):Int)))]) (v:=(iV ((((chooseN picks ((2 * i))):Nat):Int)))) (c_choose rk) Tryd.func30 rfl rfl ⟨rfl,rfl,trivial⟩ ⟨Ary,?_⟩)
   have hml20:=Nat.mod_lt ((chooseN picks ((2 * i)))) (show 0 < l.tests.length by omega)
   refine Bg (i:=7) Anz rfl (by kernel_rfl) rfl Ary rfl (y_rem (p:=(((chooseN picks ((2 * i))):Nat):Int)) (q:=((l.tests.length:Nat):Int)) rfl rfl (by omega) (z:=((((chooseN picks ((2 * i))) % l.tests.length):Nat):Int)) rfl) ?_
   refine Bg (i:=8) Anb rfl (by kernel_rfl) rfl Ary rfl (Cp (v:=(iV (((((chooseN picks ((2 * i))) % l.tests.length):Nat):Int)))) rfl) ?_
   refine Ec rfl ?_
   apply k15
   refine Dc [0,1,2,3,4,5,6,7,8,9,10,11,12,13,14] (by kernel_rfl) rfl rfl ?_
   refine Be (i:=0) Anc rfl (by kernel_rfl) rfl Ary rfl (Ah (v:=ov6_9) h6_9) ?_
   refine Be (i:=1) Aop rfl (by kernel_rfl) rfl Ary rfl (Ah (v:=(iV (((((chooseN picks ((2 * i))) % l.tests.length):Nat):Int)))) rfl) ?_
   refine Cd (i:=2) And rfl (by kernel_rfl) rfl Ary rfl (Ax Aaj h6_4 r2) fun v21 r21=>?_
   refine Be (i:=3) Aot rfl (by kernel_rfl) rfl Ary rfl (Ah (v:=(iV ((set:Int)))) h6_1) ?_
   refine Be (i:=4) Apg rfl (by kernel_rfl) rfl Ary rfl (Ah (v:=(iV (((((chooseN picks ((2 * i))) % l.tests.length):Nat):Int)))) rfl) ?_
   refine Be (i:=5) Anx rfl (by kernel_rfl) rfl Ary rfl (Ah (v:=vk) h6_2) ?_
   refine Bg (i:=6) Amz rfl (by kernel_rfl) rfl Ary rfl (Ah (v:=(iV ((i:Int)))) h6_10) ?_
   refine Bg (i:=7) [o1,o1,o1,o1,o1,o1,o1,o1,o0,o0,o0,o0,o0,o0,o0] rfl (by kernel_rfl) rfl Ary rfl (Vz (p:=2) (q:=(i:Int)) rfl rfl (z:=(((2 * i):Nat):Int)) (Bo (by first | rfl | omega | (push_cast; rfl)) (by omega) (by omega))) ?_
   refine Bg (i:=8) [o1,o1,o1,o1,o1,o1,o1,o1,o1,o0,o0,o0,o0,o0,o0] rfl (by kernel_rfl) rfl Ary rfl (Br (p:=(((2 * i):Nat):Int)) (q:=1) rfl rfl (z:=((((2 * i) + 1):Nat):Int)) (Bo (by first | rfl | omega | (push_cast; rfl)) (by omega) (by omega))) ?_
   have hch22:=chooseN_lt (l:=picks) (k:=(((2 * i) + 1)))
   refine Dj (i:=9) [o1,o1,o1,o1,o1,o1,o1,o1,o1,o1,o0,o0,o0,o0,o0] rfl (by kernel_rfl) rfl rfl (Bn (vs:=[vk,(iV (((((2 * i) + 1):Nat):Int)))]) (v:=(iV ((((chooseN picks (((2 * i) + 1))):Nat):Int)))) (c_choose rk) Tryd.func30 rfl rfl ⟨rfl,rfl,trivial⟩ ⟨Ary,?_⟩)
   refine Dj (i:=10) [o1,o1,o1,o1,o1,o1,o1,o1,o1,o1,o1,o0,o0,o0,o0] rfl (by kernel_rfl) rfl rfl (Bn (vs:=[v21,(iV ((set:Int))),(iV (((((chooseN picks ((2 * i))) % l.tests.length):Nat):Int))),(iV ((((chooseN picks (((2 * i) + 1))):Nat):Int)))]) (v:=(.bool (shownB l set (((chooseN picks ((2 * i))) % l.tests.length)) ((chooseN picks (((2 * i) + 1))))))) (c_shown r21 (by omega) (Nat.mod_lt _ (by omega)) (by omega)) Tryd.func54 rfl rfl ⟨rfl,rfl,rfl,rfl,trivial⟩ ⟨Ary,?_⟩)
   have r23:Val ρ6 (.agg #[(iV (((((chooseN picks ((2 * i))) % l.tests.length):Nat):Int))),(.bool (shownB l set (((chooseN picks ((2 * i))) % l.tests.length)) ((chooseN picks (((2 * i) + 1))))))]) (⟨((((chooseN picks ((2 * i))) % l.tests.length):Nat):Int),shownB l set (((chooseN picks ((2 * i))) % l.tests.length)) ((chooseN picks (((2 * i) + 1))))⟩:Found):=Found.shut (x:=(⟨((((chooseN picks ((2 * i))) % l.tests.length):Nat):Int),shownB l set (((chooseN picks ((2 * i))) % l.tests.length)) ((chooseN picks (((2 * i) + 1))))⟩:Found)) (show I64 (((((chooseN picks ((2 * i))) % l.tests.length):Nat):Int)) from by constructor <;> omega)
   refine Bg (i:=11) [o1,o1,o1,o1,o1,o1,o1,o1,o1,o1,o1,o1,o0,o0,o0] rfl (by kernel_rfl) rfl Ary rfl (Dm (ns:=[1,1]) (vs:=[(0,(iV (((((chooseN picks ((2 * i))) % l.tests.length):Nat):Int)))),(1,(.bool (shownB l set (((chooseN picks ((2 * i))) % l.tests.length)) ((chooseN picks (((2 * i) + 1)))))))]) (zc:=Alq) (cs:=[(iV (((((chooseN picks ((2 * i))) % l.tests.length):Nat):Int))),(.bool (shownB l set (((chooseN picks ((2 * i))) % l.tests.length)) ((chooseN picks (((2 * i) + 1))))))]) Tryd.underlying43 Ahd rfl ⟨⟨_,Ab Tryd.typeInfo3,rfl⟩,⟨_,Ab Tryd.typeInfo4,rfl⟩,trivial⟩ (EvB.map ⟨⟨rfl,rfl⟩,⟨rfl,rfl⟩,trivial⟩) ((Bd (cs:=[(iV (((((chooseN picks ((2 * i))) % l.tests.length):Nat):Int)))]) rfl rfl (Nat.le_of_ble_eq_true rfl)).trans ((Bd (cs:=[(.bool (shownB l set (((chooseN picks ((2 * i))) % l.tests.length)) ((chooseN picks (((2 * i) + 1))))))]) rfl rfl (Nat.le_of_ble_eq_true rfl)).trans rfl))) ?_
   refine Dj (i:=12) Aod rfl (by kernel_rfl) rfl rfl (Bi (α:=Found) (xs:=[(⟨((((chooseN picks ((2 * i))) % l.tests.length):Nat):Int),shownB l set (((chooseN picks ((2 * i))) % l.tests.length)) ((chooseN picks (((2 * i) + 1))))⟩:Found)]) (vs:=[(.agg #[(iV (((((chooseN picks ((2 * i))) % l.tests.length):Nat):Int))),(.bool (shownB l set (((chooseN picks ((2 * i))) % l.tests.length)) ((chooseN picks (((2 * i) + 1))))))])]) Tryd.underlying41 Aax Ahd rfl (by decide) (Dl (os:=[.tmp 42]) ⟨rfl,trivial⟩) ⟨r23,trivial⟩ rfl (by decide) fun k24 cs24 R24=>⟨Ary,?_⟩)
   have G24:Grow ρ6 43 (.slice (some ⟨k24,0,none⟩) 1 1) ([(⟨((((chooseN picks ((2 * i))) % l.tests.length):Nat):Int),shownB l set (((chooseN picks ((2 * i))) % l.tests.length)) ((chooseN picks (((2 * i) + 1))))⟩:Found)]:List Found) [(k24,Res.obj (.cells cs24.toArray 43 (0,0)))]:=Bs R24 rfl (by decide)
   refine Ls G24 fun ρ26 l26 r26=>?_
   replace rk:=Asa l26 rk
   replace r2:=Arv l26 r2
   replace OG6_9:=Grow.mono l26 OG6_9
   replace r21:=Asa l26 r21
   replace r23:=Asa l26 r23
   refine Dj (i:=13) Aoc rfl (by kernel_rfl) rfl rfl (Fx (σ:=σ) (gr:=og6_9) (xs:=(List.range i).map (shownAt l set picks)) (ys:=([(⟨((((chooseN picks ((2 * i))) % l.tests.length):Nat):Int),shownB l set (((chooseN picks ((2 * i))) % l.tests.length)) ((chooseN picks (((2 * i) + 1))))⟩:Found)]:List Found)) Tryd.underlying41 Tryd.underlying41 (Ab Tryd.typeInfo43) rfl (Nat.le_of_ble_eq_true rfl) rfl rfl rfl rfl OG6_9 r26 (by simp only [List.length_append,List.length_map,List.length_range,List.length_cons,List.length_nil] at *; omega) fun v25 gr25 G25=>⟨l26,?_⟩)
   refine Bg (i:=14) Aoe rfl (by kernel_rfl) rfl l26 rfl (Cp (v:=v25) rfl) ?_
   refine Ec rfl ?_
   apply k14
   refine Ag rfl rfl ?_
   refine Aa rfl (Ah (v:=(iV ((i:Int)))) h6_10) ?_
   refine Aa rfl (Br (p:=(i:Int)) (q:=1) rfl rfl (z:=(((i + 1):Nat):Int)) (Bo (by first | rfl | omega | (push_cast; rfl)) (by omega) (by omega))) ?_
   refine l_A (iV ((((i + 1):Nat):Int))) rfl rfl ?_
   apply Ac
   refine ⟨_,?_,((i + 1)),v25,gr25,rfl,rfl,(Arz l6 l26),rfl,h6_1,h6_2,h6_3,h6_4,rfl,rfl,(by omega),(fun h=>absurd h (by omega)),(Ga (by rw [List.range_succ,List.map_append]; rfl) G25),trivial⟩
   omega
  have q13:=of_decide_eq_false b13
  refine Bx ?_
  apply k4
  refine w_q rfl rfl fun K27 k27=>?_
  refine Aa rfl (Ah (v:=ov6_9) h6_9) ?_
  refine l_A ov6_9 rfl rfl ?_
  apply Ac
  apply k27
  refine Aq ?_
  refine hret _ _ _ ?_
  refine ⟨(Arz l2 l6),og6_9,rfl,Ga ?_ OG6_9⟩
  unfold shownL; split
  ·rename_i h0; rw [p6_1 h0]; rfl
  ·rw [show i = many by omega]
 have q9:=of_decide_eq_false b9
 refine Ap (Bl rfl rfl rfl b9) ?_
 refine Ap (Bl rfl rfl rfl b9) ?_
 refine Ap (Bl rfl rfl rfl b9) ?_
 refine Ap (Bl rfl rfl rfl b9) ?_
 refine Aa rfl (Bm rfl b9 (v:=(.bool (false))) rfl) ?_
 apply Ac
 apply k8
 refine Cg rfl rfl ?_
 refine Bx ?_
 apply k4
 refine w_q rfl rfl fun K28 k28=>?_
 refine Aa rfl (Ah (v:=ov6_9) h6_9) ?_
 refine l_A ov6_9 rfl rfl ?_
 apply Ac
 apply k28
 refine Aq ?_
 refine hret _ _ _ ?_
 refine ⟨(Arz l2 l6),og6_9,rfl,Ga ?_ OG6_9⟩
 unfold shownL; split
 ·rename_i h0; rw [p6_1 h0]; rfl
 ·rw [show i = many by omega]
set_option maxHeartbeats 1000000 in
set_option maxRecDepth 100000 in
theorem c_TreeG {mn:Bool} {X:Frame→List Frame→Ro→Own→Cy→Prop} {ρ:Ro} {σ:Own} {l:Lab} {vl vr:Value} {rs:List Found} (hg:Glob ρ) (rl:Val ρ vl l) (rr:Val ρ vr rs):CallsH (CX mn X) 26 #[vl,vr] ρ σ (fun w ρ' σ'=>Ro.le ρ ρ'∧∃ v0 gr,w = (.tuple #[v0,iV (Xx l rs),.bool (Yl l rs),iV (Cw l rs)])∧σ' = gr ++ σ∧Grow ρ' 94 v0 (Za l rs) gr):=by
 refine Mc (n:=40) (args:=[vl,vr]) [.cell 4 49,.tmp 5,.tmp 6,.tmp 7] Tryd.func26 rfl rfl rfl rfl fun Q hret hnor=>?_
 refine w_q rfl rfl fun K1 k1=>?_
 refine Ae rfl (Eb (v:=vl) rfl fun k2=>?_)
 refine Bb (a:=l) rl fun ρ2 l2 r2=>?_
 replace rl:=Asa l2 rl
 replace rr:=Asa l2 rr
 replace hg:=Glob.mono l2 hg
 refine Ae rfl (Ct Art fun k3=>?_)
 refine l_A (iV (0)) rfl rfl ?_
 refine l_A (.bool (false)) rfl rfl ?_
 refine l_A (iV (0)) rfl rfl ?_
 apply Ac
 apply k1
 refine w_q rfl rfl fun K4 k4=>?_
 refine Ak rfl (Ax Aaj rfl r2) fun v5 r5=>?_
 refine l_M vr rfl rfl ?_
 refine Ae rfl (Cm (vs:=[v5,vr]) (Acx hg r5 rr) Tryd.func67 rfl rfl ⟨rfl,rfl,trivial⟩ fun w6 ρ6 σ6 hc6=>?_)
 obtain ⟨l6,hc6⟩:=hc6
 replace rr:=Asa l6 rr
 replace hg:=Glob.mono l6 hg
 replace r2:=Arv l6 r2
 replace r5:=Asa l6 r5
 rcases hc6 with ⟨hC6,rfl,rfl⟩ | ⟨hC6,bp6,rm6,rfl,rfl,rb6⟩
 ·refine Aa rfl (Ah (v:=(.tuple #[(.pointer none),(iV (0)),(iV ((Cw l rs)))])) rfl) ?_
  refine Aa rfl (Bk (vs:=#[(.pointer none),(iV (0)),(iV ((Cw l rs)))]) rfl (v:=(.pointer none)) rfl) ?_
  refine Aa rfl (Bk (vs:=#[(.pointer none),(iV (0)),(iV ((Cw l rs)))]) rfl (v:=(iV (0))) rfl) ?_
  refine Aa rfl (Bk (vs:=#[(.pointer none),(iV (0)),(iV ((Cw l rs)))]) rfl (v:=(iV ((Cw l rs)))) rfl) ?_
  refine Ae rfl (Ct Amo fun k7=>?_)
  refine Cx rfl (Cz (j:=0) (v:=(.pointer none)) (c:=Amq) ⟨_,Ab Tryd.typeInfo109,rfl⟩ rfl rfl rfl rfl (Nat.le_of_ble_eq_true rfl) ?_)
  refine l_A (iV (0)) rfl rfl ?_
  refine l_A (iV ((Cw l rs))) rfl rfl ?_
  apply Ac
  apply k4
  refine Ai fun K8 k8=>?_
  refine w_q rfl rfl fun K9 k9=>?_
  refine l_M (iV ((Cw l rs))) rfl rfl ?_
  refine Aa rfl (Dg (p:=(Cw l rs)) (q:=0) rfl rfl) ?_
  apply Ac
  apply k9
  refine Co rfl (Anh hC6) ?_
  refine w_q rfl rfl fun K10 k10=>?_
  refine l_M (iV ((Cw l rs))) rfl rfl ?_
  refine Cx rfl (Cz (j:=1) (v:=(.slice none 0 0)) ⟨_,Ab Tryd.typeInfo49,rfl⟩ rfl rfl rfl rfl (Nat.le_of_ble_eq_true rfl) ?_)
  refine l_A (iV (0)) rfl rfl ?_
  refine l_A (.bool (false)) rfl rfl ?_
  refine l_A (iV ((Cw l rs))) rfl rfl ?_
  apply Ac
  apply k10
  refine Aj Ghost.drop ?_
  refine Aq ?_
  refine hret _ _ _ _ _ [(.slice none 0 0),(iV (0)),(.bool (false)),(iV ((Cw l rs)))] ⟨(Rd ⟨_,Tryd.underlying49,rfl⟩ rfl (i:=0) rfl rfl),rfl,rfl,rfl,trivial⟩ Ghost.drop ?_
  refine ⟨(Arz l2 l6),(.slice none 0 0),[],Eq.trans (b:=(.tuple #[(.slice none 0 0),(iV (0)),(.bool (false)),(iV ((Cw l rs)))])) rfl ?_,rfl,Ga ?_ Hn⟩
  ·rw [Xx,Yl,if_neg hC6,if_neg hC6]
  ·rw [Za,if_neg hC6]
 obtain ⟨hl,hrs,hr8⟩:=(show Gj l = 0∧ResOk l rs∧rs.length ≤ 8 from Abk (Xz hC6))
 have ok:=Lm hl
 have hk4:=ok.n4
 have hm16:=Jx ok (rs:=rs)
 have hnt:=ok.ntests
 have hsh:=Ame hnt
 have hl31:1 <<< l.tests.length - 1 < 32:=by omega
 have hle:=Me (l:=l) (sets:=Ba l rs) hl31
 refine l_M (.tuple #[bp6,(iV ((((Bf (Ba l rs)):Nat):Int))),(iV (0))]) rfl rfl ?_
 refine Aa rfl (Bk (vs:=#[bp6,(iV ((((Bf (Ba l rs)):Nat):Int))),(iV (0))]) rfl (v:=bp6) rfl) ?_
 refine Aa rfl (Bk (vs:=#[bp6,(iV ((((Bf (Ba l rs)):Nat):Int))),(iV (0))]) rfl (v:=(iV ((((Bf (Ba l rs)):Nat):Int)))) rfl) ?_
 refine Aa rfl (Bk (vs:=#[bp6,(iV ((((Bf (Ba l rs)):Nat):Int))),(iV (0))]) rfl (v:=(iV (0))) rfl) ?_
 refine Ae rfl (Ct Amo fun k11=>?_)
 refine Cx rfl (Du (v:=bp6) (a:=(Ptr.mk ((⟨l.tests.map Dr,((Bf (Hk l):Nat):Int),⟨rm6⟩⟩:Bench)))) (c:=Amq) Sd rfl rfl (Io.2 rb6) rfl ?_)
 refine Bb (a:=(Ptr.mk ((⟨l.tests.map Dr,((Bf (Hk l):Nat):Int),⟨rm6⟩⟩:Bench)))) (Io.2 rb6) fun ρ12 l12 r12=>?_
 replace rr:=Asa l12 rr
 replace hg:=Glob.mono l12 hg
 replace r2:=Arv l12 r2
 replace r5:=Asa l12 r5
 replace rb6:=Arv l12 rb6
 refine l_A (iV ((((Bf (Ba l rs)):Nat):Int))) rfl rfl ?_
 refine l_A (iV (0)) rfl rfl ?_
 apply Ac
 apply k4
 refine Ai fun K13 k13=>?_
 refine w_q rfl rfl fun K14 k14=>?_
 refine l_M (iV (0)) rfl rfl ?_
 refine Aa rfl (Dg (p:=0) (q:=0) rfl rfl) ?_
 apply Ac
 apply k14
 refine Cg rfl rfl ?_
 refine Al ?_
 apply k13
 refine w_q rfl rfl fun K15 k15=>?_
 refine l_M (iV ((((Bf (Ba l rs)):Nat):Int))) rfl rfl ?_
 refine Ak rfl (Ay Lab.f_tests Tryd.underlying40 rfl rfl Vd (by decide) rfl r2) fun v16 r16=>?_
 refine Ak rfl (Ax Vd rfl r16) fun v17 r17=>?_
 have g18:=Val.len r17
 refine Aa rfl (Ce (el:=108) Tryd.underlying38 rfl r17) ?_
 refine Aa rfl (Ly (p:=1) (q:=l.tests.length) rfl rfl rfl (by omega) (z:=(((1 <<< l.tests.length):Nat):Int)) (Bo rfl (by omega) (by omega))) ?_
 refine Aa rfl (Oq (p:=(((1 <<< l.tests.length):Nat):Int)) (q:=1) rfl rfl (z:=((((1 <<< l.tests.length) - 1):Nat):Int)) (Bo (by omega) (by omega) (by omega))) ?_
 have r19:Val ρ12 (.agg #[(iV ((((Bf (Ba l rs)):Nat):Int))),(iV (((((1 <<< l.tests.length) - 1):Nat):Int)))]) (⟨(((Bf (Ba l rs)):Nat):Int),((((1 <<< l.tests.length) - 1):Nat):Int)⟩:State):=State.shut (x:=(⟨(((Bf (Ba l rs)):Nat):Int),((((1 <<< l.tests.length) - 1):Nat):Int)⟩:State)) (show I64 ((((Bf (Ba l rs)):Nat):Int)) from by constructor <;> omega) (show I64 (((((1 <<< l.tests.length) - 1):Nat):Int)) from by constructor <;> omega)
 refine Aa rfl (Dm (ns:=[1,1]) (vs:=[(0,(iV ((((Bf (Ba l rs)):Nat):Int)))),(1,(iV (((((1 <<< l.tests.length) - 1):Nat):Int))))]) (zc:=Ws) (cs:=[(iV ((((Bf (Ba l rs)):Nat):Int))),(iV (((((1 <<< l.tests.length) - 1):Nat):Int)))]) Tryd.underlying120 Wk rfl ⟨⟨_,Ab Tryd.typeInfo110,rfl⟩,⟨_,Ab Tryd.typeInfo3,rfl⟩,trivial⟩ (EvB.map ⟨⟨rfl,rfl⟩,⟨rfl,rfl⟩,trivial⟩) ((Bd (cs:=[(iV ((((Bf (Ba l rs)):Nat):Int)))]) rfl rfl (Nat.le_of_ble_eq_true rfl)).trans ((Bd (cs:=[(iV (((((1 <<< l.tests.length) - 1):Nat):Int)))]) rfl rfl (Nat.le_of_ble_eq_true rfl)).trans rfl))) ?_
 refine Ae rfl (Ct Wk fun k20=>?_)
 refine Cx rfl (Du (v:=(.agg #[(iV ((((Bf (Ba l rs)):Nat):Int))),(iV (((((1 <<< l.tests.length) - 1):Nat):Int)))])) (a:=(⟨(((Bf (Ba l rs)):Nat):Int),((((1 <<< l.tests.length) - 1):Nat):Int)⟩:State)) (c:=Ws) Om rfl rfl r19 rfl ?_)
 refine Bb (a:=(⟨(((Bf (Ba l rs)):Nat):Int),((((1 <<< l.tests.length) - 1):Nat):Int)⟩:State)) r19 fun ρ21 l21 r21=>?_
 replace hg:=Glob.mono l21 hg
 replace r2:=Arv l21 r2
 replace r12:=Arv l21 r12
 replace r16:=Arv l21 r16
 replace r17:=Asa l21 r17
 replace r19:=Asa l21 r19
 apply Ac
 apply k15
 refine w_q rfl rfl fun K22 k22=>?_
 refine Ak rfl (Ax Sd rfl r12) fun v23 r23=>?_
 replace r23:=Io.1 r23
 refine Ak rfl (Ax Om rfl r21) fun v24 r24=>?_
 obtain ⟨e25_,⟨i25_1a,i25_1b⟩,⟨i25_2a,i25_2b⟩⟩:=State.open_ r24
 have e25_c:v24.cells = [(iV ((((Bf (Ba l rs)):Nat):Int))),(iV (((((1 <<< l.tests.length) - 1):Nat):Int)))].toArray:=by rw [e25_]; rfl
 refine Ae rfl (Cm (vs:=[v23,(.agg #[(iV ((((Bf (Ba l rs)):Nat):Int))),(iV (((((1 <<< l.tests.length) - 1):Nat):Int)))])]) (Tv hg r23 hl hm16 (by omega) Ajm) Tryd.func72 rfl rfl ⟨rfl,(rfl.trans e25_),trivial⟩ fun w26 ρ26 σ26 hc26=>?_)
 obtain ⟨hr26,es26,ck26,hw26,hs26,MM26⟩:=hc26
 replace hr26:=hr26.symm; subst hr26; subst hs26
 rw [Fq ok] at hw26
 subst hw26
 refine l_A (iV ((Dp (dep l (Ba l rs) (1 <<< l.tests.length - 1))))) rfl rfl ?_
 apply Ac
 apply k22
 refine Ai fun K27 k27=>?_
 refine w_q rfl rfl fun K28 k28=>?_
 refine l_M (iV ((Dp (dep l (Ba l rs) (1 <<< l.tests.length - 1))))) rfl rfl ?_
 refine Aa rfl (Uv (p:=(Dp (dep l (Ba l rs) (1 <<< l.tests.length - 1)))) (q:=1048576) rfl rfl) ?_
 apply Ac
 apply k28
 refine As (t:=decide ((Dp (dep l (Ba l rs) (1 <<< l.tests.length - 1))) ≥ 1048576)) rfl (fun b29=>?_) (fun b29=>?_)
 ·have q29:=of_decide_eq_true b29
  refine w_q rfl rfl fun K30 k30=>?_
  refine Cx rfl (Cz (j:=1) (v:=(.slice none 0 0)) ⟨_,Ab Tryd.typeInfo49,rfl⟩ rfl rfl rfl rfl (Nat.le_of_ble_eq_true rfl) ?_)
  refine l_A (iV (0)) rfl rfl ?_
  refine l_A (.bool (false)) rfl rfl ?_
  refine l_A (iV (0)) rfl rfl ?_
  apply Ac
  apply k30
  refine Aj Ghost.drop ?_
  refine Aq ?_
  refine hret _ _ _ _ _ [(.slice none 0 0),(iV (0)),(.bool (false)),(iV (0))] ⟨(Rd ⟨_,Tryd.underlying49,rfl⟩ rfl (i:=0) rfl rfl),rfl,rfl,rfl,trivial⟩ Ghost.drop ?_
  refine ⟨(Arz (Arz (Arz l2 l6) l12) l21),(.slice none 0 0),[],Eq.trans (b:=(.tuple #[(.slice none 0 0),(iV (0)),(.bool (false)),(iV (0))])) rfl ?_,rfl,Ga ?_ Hn⟩
  ·have hx:dep l (Ba l rs) (1 <<< l.tests.length - 1) = none:=by cases hx:dep l (Ba l rs) (1 <<< l.tests.length - 1) with | none=>rfl | some d=>(exfalso; have h5:=Nu hl31 hx; have h6:=Lg hl31; rw [hx,Ha] at q29; omega)
   rw [Xx,Yl,if_pos hC6,if_pos hC6,hx,hC6]; rfl
  ·have hx:dep l (Ba l rs) (1 <<< l.tests.length - 1) = none:=by cases hx:dep l (Ba l rs) (1 <<< l.tests.length - 1) with | none=>rfl | some d=>(exfalso; have h5:=Nu hl31 hx; have h6:=Lg hl31; rw [hx,Ha] at q29; omega)
   rw [Za,if_pos hC6,hx]
 have q29:=of_decide_eq_false b29
 refine Al ?_
 apply k27
 refine w_q rfl rfl fun K31 k31=>?_
 refine Ae rfl (Ct Apt fun k32=>?_)
 apply Ac
 apply k31
 refine w_q rfl rfl fun K33 k33=>?_
 refine Aa rfl (Ic (fn:=.func 73) (caps:=[.tmp 8,.tmp 4,.tmp 11]) (vs:=[(.pointer (some ⟨k11,0,none⟩)),(.pointer (some ⟨k3,0,none⟩)),(.pointer (some ⟨k32,0,none⟩))]) ⟨rfl,rfl,rfl,trivial⟩) ?_
 refine Cx rfl (Du (v:=(.func (.func 73) #[] #[(.pointer (some ⟨k11,0,none⟩)),(.pointer (some ⟨k3,0,none⟩)),(.pointer (some ⟨k32,0,none⟩))])) (a:=(RawV.mk ((.func (.func 73) #[] #[(.pointer (some ⟨k11,0,none⟩)),(.pointer (some ⟨k3,0,none⟩)),(.pointer (some ⟨k32,0,none⟩))])))) (c:=Apk) Adg rfl rfl (Sl rfl) rfl ?_)
 refine Bb (a:=(RawV.mk ((.func (.func 73) #[] #[(.pointer (some ⟨k11,0,none⟩)),(.pointer (some ⟨k3,0,none⟩)),(.pointer (some ⟨k32,0,none⟩))])))) (Sl rfl) fun ρ34 l34 r34=>?_
 replace hg:=Glob.mono l34 hg
 replace r12:=Arv l34 r12
 replace r21:=Arv l34 r21
 apply Ac
 apply k33
 refine w_q rfl rfl fun K35 k35=>?_
 refine Aa rfl (Lb Adg rfl r34) ?_
 refine Ak rfl (Ax Om rfl r21) fun v37 r37=>?_
 obtain ⟨e38_,⟨i38_1a,i38_1b⟩,⟨i38_2a,i38_2b⟩⟩:=State.open_ r37
 have e38_c:v37.cells = [(iV ((((Bf (Ba l rs)):Nat):Int))),(iV (((((1 <<< l.tests.length) - 1):Nat):Int)))].toArray:=by rw [e38_]; rfl
 obtain ⟨d0,hd0⟩:∃ d,dep l (Ba l rs) (1 <<< l.tests.length - 1) = some d:=by cases hx:dep l (Ba l rs) (1 <<< l.tests.length - 1) with | none=>(rw [hx,Nr] at q29; exact absurd (Int.le_refl _) q29) | some d=>exact ⟨d,rfl⟩
 have hpw:2 ^ (De (1 <<< l.tests.length - 1) + 1) ≤ 2 ^ 6:=Nat.pow_le_pow_right (by omega) (by have:=Lg hl31; omega)
 refine Bj (σ':=((k3,Res.obj (Obj.cells #[(.slice none 0 0)] 49 (0,0))) :: ((rm6,Res.obj (Obj.map es26 ck26)) :: σ))) (Arx (List.perm_append_comm_assoc ([(rm6,Res.obj (Obj.map es26 ck26))]) ([(k3,Res.obj (Obj.cells #[(.slice none 0 0)] 49 (0,0)))]) _)) ?_
 refine Ae rfl (Si (vs:=[(.agg #[(iV ((((Bf (Ba l rs)):Nat):Int))),(iV (((((1 <<< l.tests.length) - 1):Nat):Int)))])]) (caps:=[(.pointer (some ⟨k11,0,none⟩)),(.pointer (some ⟨k3,0,none⟩)),(.pointer (some ⟨k32,0,none⟩))]) rfl (Alt (gr:=[]) (tree:=[]) hg r12 r34 Hn hl hm16 (by omega) ((Fq ok).symm ▸ hd0) (by simp only [List.length_nil]; omega) MM26) Tryd.func73 rfl rfl ⟨(rfl.trans e38_),trivial⟩ fun w39 ρ39 σ39 hc39=>?_)
 obtain ⟨l39,v39,gr39,es39,ck39,hw39,hs39,G39,MM39⟩:=hc39
 rw [Fq ok] at hw39 G39
 subst hs39 hw39
 replace hg:=Glob.mono l39 hg
 replace r12:=Arv l39 r12
 replace r21:=Arv l39 r21
 replace r34:=Arv l39 r34
 replace r37:=Asa l39 r37
 have hgl39:=(Hz:_ ≤ (Bp l [] (Ba l rs) (1 <<< l.tests.length - 1)).1.length∧(Bp l [] (Ba l rs) (1 <<< l.tests.length - 1)).1.length + 1 ≤ _)
 have hgi39:=(Pe:(Bp l [] (Ba l rs) (1 <<< l.tests.length - 1)).2 = -1∨(Bp l [] (Ba l rs) (1 <<< l.tests.length - 1)).2 = _)
 try simp only [List.length_append,List.length_singleton] at hgl39 hgi39
 apply Ac
 apply k35
 refine w_q rfl rfl fun K40 k40=>?_
 refine Ae rfl (Gv (v:=v39) ⟨_,Tryd.underlying49,rfl⟩ rfl (List.mem_append_right _ (List.mem_cons_self ..)) rfl ?_)
 refine l_M (iV ((Dp (dep l (Ba l rs) (1 <<< l.tests.length - 1))))) rfl rfl ?_
 refine Bj (σ':=((k3,Res.obj (Obj.cells #[v39] 49 (0,0))) :: (gr39 ++ ((rm6,Res.obj (Obj.map es39 ck39)) :: σ)))) (Arx (List.perm_append_comm_assoc gr39 ([(k3,Res.obj (Obj.cells #[v39] 49 (0,0)))]) _)) ?_
 refine Cx rfl (Cz (j:=0) (v:=v39) ⟨_,Ab Tryd.typeInfo49,rfl⟩ rfl rfl (Grow.single G39) rfl (Nat.le_of_ble_eq_true rfl) ?_)
 refine l_A (iV ((Dp (dep l (Ba l rs) (1 <<< l.tests.length - 1))))) rfl rfl ?_
 refine l_A (.bool (true)) rfl rfl ?_
 refine l_A (iV (0)) rfl rfl ?_
 apply Ac
 apply k40
 refine Aj (σ':=((rm6,Res.obj (Obj.map es39 ck39)) :: ((k3,Res.obj (Obj.cells #[v39] 49 (0,0))) :: (gr39 ++ σ)))) (Arx ((List.Perm.append_left ([(k3,Res.obj (Obj.cells #[v39] 49 (0,0)))]) (List.perm_append_comm_assoc gr39 ([(rm6,Res.obj (Obj.map es39 ck39))]) _)).trans (List.perm_append_comm_assoc ([(k3,Res.obj (Obj.cells #[v39] 49 (0,0)))]) ([(rm6,Res.obj (Obj.map es39 ck39))]) _))) ?_
 refine Aj Ghost.drop ?_
 refine Aq ?_
 refine hret _ _ _ _ _ [v39,(iV ((Dp (dep l (Ba l rs) (1 <<< l.tests.length - 1))))),(.bool (true)),(iV (0))] ⟨(Rd ⟨_,Tryd.underlying49,rfl⟩ rfl (i:=0) rfl rfl),rfl,rfl,rfl,trivial⟩ Ghost.drop ?_
 refine ⟨(Arz (Arz (Arz (Arz (Arz l2 l6) l12) l21) l34) l39),v39,gr39,Eq.trans (b:=(.tuple #[v39,(iV ((Dp (dep l (Ba l rs) (1 <<< l.tests.length - 1))))),(.bool (true)),(iV (0))])) rfl ?_,rfl,Ga ?_ G39⟩
 ·rw [Xx,Yl,if_pos hC6,if_pos hC6,hd0,hC6]; rfl
 ·rw [Za,if_pos hC6,hd0]
end Go.Proofs.YtoefdnbaklajeaaDoor

namespace Go.Proofs.YtoefdnbaklajeaaDoor
open Go
/-- Where one is in a tree: what one knows,what is still to come. -/
structure Follow (l:Lab) (set:Nat) (T:List FNode) (D:Int) (r:List Found) (at_:Int) (done:Nat):Prop where
  res:ResOk l r
  real:set ∈ Ba l r
  ends:endsF l T at_ (Ba l r) = true
  deep:((hgt T at_:Nat):Int) + (done:Int) ≤ D
  at_:at_ = -1∨(0 ≤ at_∧at_ < (T.length:Int))
/-- What is known of a tree that is returned,and where one begins. -/
theorem settle_law {l:Lab} {rs:List Found} {set:Nat} (hc:Cw l rs = 0) (hB:Yl l rs = true) (hs:set ∈ Ba l rs) :
    setlF l rs (Za l rs) = 0∧setlB l rs (Za l rs) = true∧0 ≤ Xx l rs∧Xx l rs ≤ (l.tests.length:Int)∧(Xx l rs = 0↔(Za l rs).length = 0)∧(Za l rs).length ≤ 31∧NodeOk l (Za l rs) ∧
    ∀ a:Int,(if (Za l rs).length = 0 then a = -1 else a = 0)→Follow l set (Za l rs) (Xx l rs) rs a 0:=by
  obtain ⟨h1,h2,h3,h4,h5,h6,h7,_⟩:=tree_law hc hB
  have hf:setlF l rs (Za l rs) = 0:=by unfold setlF; rw [Jr]; exact ⟨hc,treeF_ok h1⟩
  refine ⟨hf,by unfold setlB; rw [if_pos hf]; exact h2,h5,h6,h7.trans List.length_eq_zero_iff.symm,h4,h1,fun a ha=>?_⟩
  have hr:=(Aou (Xz hc)).2.1
  by_cases h0:(Za l rs).length = 0
  · rw [if_pos h0] at ha
    subst ha
    have e1:endsF l (Za l rs) (-1) (Ba l rs) = endsF l (Za l rs) 0 (Ba l rs):=by rw [ends_end (.inl (by omega)),ends_end (.inr (.inl (by omega)))]
    exact ⟨hr,hs,by rw [e1]; exact h2,by rw [hgt_end (.inl (by omega))]; simpa using h5,.inl rfl⟩
  · rw [if_neg h0] at ha
    subst ha
    exact ⟨hr,hs,h2,by rw [h3]; simp,.inr ⟨Int.le_refl _,by omega⟩⟩
theorem Follow.step {l:Lab} {set done pick:Nat} {T:List FNode} {D a:Int} {r:List Found} {n:FNode} {t:Nat} (F:Follow l set T D r a done) (ok:NodeOk l T) (h0:0 ≤ a) (hn:T[a.toNat]? = some n) (ht:n.test = (t:Int)) :
    t < l.tests.length∧Follow l set T D (r ++ [⟨(t:Int),shownB l set t pick⟩]) (if shownB l set t pick then n.found else n.not) (done + 1):=by
  have htl:t < l.tests.length:=by have:=(ok.test _ n hn).2; omega
  refine ⟨htl,?_⟩
  have hk:=shown_keep (set:=set) (pick:=pick) htl
  have hlt:=(List.getElem?_eq_some_iff.1 hn).1
  have hne:Ba l r ≠ []:=fun e=>by have:=F.real; rw [e] at this; cases this
  have he:=F.ends
  rw [ends_step ok (by intro h; rcases h with h | h | h; · omega
                       · omega
                       · exact hne h) hn, Bool.and_eq_true] at he
  have hg:=hgt_step ok (a:=a) (by omega) hn
  have hd:=F.deep
  have h1:=ok.found _ n hn
  have h2:=ok.not _ n hn
  refine ⟨resOk_mem.2 fun x hx=>?_,?_,?_,?_,?_⟩
  · rcases List.mem_append.1 hx with hx | hx
    · exact resOk_mem.1 F.res x hx
    · rw [List.mem_singleton.1 hx]; exact ⟨Int.natCast_nonneg _,Int.ofNat_lt.2 htl⟩
  · rw [remain_one]; exact List.mem_filter.2 ⟨F.real,hk⟩
  · rw [remain_one,← ht]
    cases hb:shownB l set t pick with
    | true=>exact he.1
    | false=>exact he.2
  · split <;> omega
  · split <;> omega
/-- At the end one knows whether the tin is pure. -/
theorem Follow.done_ {l:Lab} {set done:Nat} {T:List FNode} {D a:Int} {r:List Found} (F:Follow l set T D r a done) (h:a < 0∨a ≥ (T.length:Int)∨(l.tests.length:Int) < (done:Int)) (hD:D ≤ (l.tests.length:Int)) :
    a = -1∧(done:Int) ≤ D∧(Ba l r).length ≠ 0∧Dz (Bw (Ba l r)) = true∧∀ s:Nat,(Ba l r)[0]? = some s→(s = 0↔set = 0):=by
  have hd:=F.deep
  have ha:a = -1:=by have:=F.at_; omega
  subst ha
  have he:=F.ends
  rw [ends_end (.inl (by omega))] at he
  have hne:(Ba l r).length ≠ 0:=fun e=>by have:=F.real; rw [List.length_eq_zero_iff.1 e] at this; cases this
  refine ⟨rfl,by omega,hne,he,fun s hs=>?_⟩
  have hm:=List.mem_of_getElem? hs
  rcases settled_iff.1 he with h1 | h1
  · have:=h1 s hm; have:=h1 set F.real; omega
  · have:=h1 s hm; have:=h1 set F.real; omega
end Go.Proofs.YtoefdnbaklajeaaDoor
