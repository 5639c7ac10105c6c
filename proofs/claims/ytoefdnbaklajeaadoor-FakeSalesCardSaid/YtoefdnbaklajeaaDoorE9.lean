/- Every call of crocuslaw08.FakeSales returns true, on every schedule, and leaves its arguments as they were: conditions: the two listed package-level variables hold what the program's text lays. -/
import Derived.Test.YtoefdnbaklajeaaDoorB5
import Derived.Carry
import Derived.ChangeArms
import Derived.ChangeSame
import Derived.ChangeVars
import Derived.Conc.Holds
import Derived.Conc.LeavingOf
import Derived.FnData
import Derived.LaidHandle
import Derived.LaidLaws
import Derived.LaidMore
import Derived.Laws.BitsAllLaws
import Derived.Laws.BitsLemmas
import Derived.OpenShut
import Derived.RowKit
import Derived.SizedLaws
import Derived.Stop.Joined
import Derived.Test.YtoefdnbaklajeaaDoorProg
import Derived.Test.YtoefdnbaklajeaaDoorRows
import Derived.WideShapes
set_option linter.unusedVariables false
set_option linter.unusedSimpArgs false
namespace Go.Proofs.YtoefdnbaklajeaaDoor
open Go
section
variable {C:Ctx} {b:FB} {n:Nat} {l₀ rest:List Oper} {Q:Env→List Deferred→Ro→Own→Prop} {e:Env} {ds:List Deferred} {ρ:Ro} {σ:Own}
end
section
variable {P:Program} {ρ:Ro} {e:Env} {ty t t':TypeId} {x y:Operand} {v:Value}
theorem eqGuard_str {op:BinOp} {p q:ByteArray}:eqGuard op t x y (.string p) (.string q) = pure ():=by
  cases op <;> rfl
section
variable {k:IntKind} {p q:Int}
end
end
section
variable {C:Ctx} {b:FB} {n:Nat} {l₀:List Oper} {Q:Env→List Deferred→Ro→Own→Prop} {e:Env} {ds:List Deferred} {ρ ρ₀:Ro} {σ:Own} {pz:List Nat} {fuel:Nat} {listed:Array Bool}
section
variable {d i:Nat} {op:Op} {ty:TypeId} {pos:String} {af:Array Edge} {g:Option (Nat × Bool)} {v:Value} {li:List Bool}
end
end
end Go.Proofs.YtoefdnbaklajeaaDoor

namespace Go.Proofs.YtoefdnbaklajeaaDoor
open Go
section
variable {α:Type} [Dat α] {ρ ρ':Ro}
end
section
variable {P:Program} {ρ:Ro} {σ:Own} {t:TypeId}
end
section
variable {C:Ctx} {b:FB} {n:Nat} {l₀ rest:List Oper} {Q:Env→List Deferred→Ro→Own→Prop} {e:Env} {ds:List Deferred} {ρ:Ro} {σ:Own}
variable {d:Nat} {ty:TypeId} {pos:String} {af:Array Edge} {g:Option (Nat × Bool)} {x y:Operand} {v p:Value} {t:TypeId}
/-- A slice's part. -/
theorem slice_hi {α:Type} [Dat α] {xs:List α} {a:Option Addr} {len cap h:Nat} (hv:Val ρ (.slice a len cap) xs) (hh:h ≤ len):Val ρ (.slice (if cap = 0 then a else a.map (·.add (0 * Dat.k α))) (h - 0) (cap - 0)) (xs.take h):=by
  obtain ⟨a',len',cap',h1,h2,h3,h4,h5⟩:=Cs.1 hv
  cases h1
  refine Cs.2 ⟨a,h,cap,?_,by simp; omega,by omega,by omega,fun i x hx=>?_⟩
  · congr 1
    split
    · rfl
    · cases a with
      | none=>rfl
      | some ad=>simp [Addr.add]
  · rw [List.getElem?_take] at hx
    split at hx
    · exact h5 i x hx
    · cases hx
theorem y_slice_hi {P:Program} {α:Type} [Dat α] {xs:List α} {el:TypeId} {k:IntKind} {q:Int} (h:Nat) (hT:P.underlying t = some (.slice el)) (hE:GoTy P el α) (hx:Af e x = v) (hv:Val ρ v xs) (hy:Af e y = .int k q) (hq:q = (h:Int)) (hh:h ≤ xs.length) :
    ∃ w,Val ρ w (xs.take h)∧Yld P ρ e (.slice t x none (some y) none) ty w:=by
  obtain ⟨a,len,cap,h1,h2,h3,h4,h5⟩:=Cs.1 hv
  subst h1
  refine ⟨_,slice_hi hv (by omega),Mf (s:=Instr.sliceAt t (Af e x) none (some (Af e y)) none) (fun _ _ _ _=>rfl) fun ρ' σ _=>?_⟩
  rw [hx,hy,hq]
  show wpS P ρ' ((underlying t).bind _) σ _
  rw [Ad]
  refine Az hT ?_
  show wpS P ρ' ((underlying t).bind _) σ _
  rw [Ad]
  refine Az hT ?_
  simp only []
  show wpS P ρ' ((Instr.sliceBounds true len cap none (some (.int k h)) none).bind _) σ _
  have hb:Instr.sliceBounds true len cap none (some (.int k (h:Int))) none = pure (0,h,cap):=by
    show (do let m ← pure cap; let hh ← Instr.sliceBound (.int k (h:Int)) m _; let l ← pure 0; pure (l,hh,m):Sem _) = _
    have:Instr.sliceBound (.int k (h:Int)) cap .sliceAcap = pure h:=by
      show (if 0 ≤ (h:Int)∧(h:Int) ≤ cap then pure (h:Int).toNat else _) = _
      rw [if_pos (by omega)]; simp
    show (Instr.sliceBound (.int k (h:Int)) cap .sliceAcap).bind _ = _
    rw [this]; rfl
  rw [hb]
  show wpS P ρ' ((sizeOf el).bind _) σ _
  rw [Ad]
  exact Dw hE.info ⟨rfl,rfl⟩
end
end Go.Proofs.YtoefdnbaklajeaaDoor

namespace Go.Proofs.YtoefdnbaklajeaaDoor
open Go
theorem zr30:Gc Tryd.prog 30 (.slice none 0 0):=⟨_,Ab Tryd.typeInfo30,rfl⟩
end Go.Proofs.YtoefdnbaklajeaaDoor

namespace Go.Proofs.YtoefdnbaklajeaaDoor
open Go
section
variable {C:Ctx} {b:FB} {n:Nat} {l₀ rest:List Oper} {Q:Env→List Deferred→Ro→Own→Prop} {Q':Hv} {e:Env} {ds:List Deferred} {ρ:Ro} {σ:Own}
variable {d:Nat} {ty:TypeId} {pos:String} {af:Array Edge} {g:Option (Nat × Bool)} {x y:Operand} {v p:Value} {t t':TypeId}
section
variable {P:Program}
theorem y_rem {k:IntKind} {p q z:Int} (hx:Af e x = .int k p) (hy:Af e y = .int k q) (h0:q ≠ 0) (hz:p.tmod q = z):Yld P ρ e (.binOp .rem t x y t') ty (.int k z) :=
  Ju hx hy Dh (by subst hz; simp only [binOp]; rw [if_neg (by simp)]; unfold Op.intDiv; rw [if_neg h0])
theorem y_quo {k:IntKind} {p q z:Int} (hx:Af e x = .int k p) (hy:Af e y = .int k q) (h0:q ≠ 0) (hz:k.wrap (p.tdiv q) = z):Yld P ρ e (.binOp .quo t x y t') ty (.int k z) :=
  Ju hx hy Dh (by subst hz; simp only [binOp]; rw [if_neg (by simp)]; unfold Op.intDiv; rw [if_neg h0])
end
section
variable {P:Program}
theorem y_eqs {p q:ByteArray} (hx:Af e x = .string p) (hy:Af e y = .string q):Yld P ρ e (.binOp .eql t x y t') ty (.bool (p.toList == q.toList)):=Ju hx hy eqGuard_str (by simp only [binOp]; rfl)
end
end
end Go.Proofs.YtoefdnbaklajeaaDoor

namespace Go.Proofs.YtoefdnbaklajeaaDoor
open Go
section
variable {C:Ctx} {e:Env} {ds:List Deferred} {ρ:Ro} {σ:Own} {K:Value→List Deferred→Ro→Own→Prop} {rd:Option Nat} {dd:Option Tmp}
variable {ty:TypeId} {pos:String} {af:Array Edge} {g:Option (Nat × Bool)} {x y:Operand} {v p:Value} {t t':TypeId}
theorem w_makeSlice {el:TypeId} {z:Value} {ti:TypeInfo} {n:Nat} (hT:C.P.underlying t = some (.slice el)) (hi:C.P.info? el = some ti) (hik:ti.size = 1) (hib:ti.bytes ≤ 1000) (hz:ti.zero = some z) (hzk:z.cells = #[z])
    (hx:Af e x = .int .i64 (n:Int)) (hy:Af e y = .int .i64 (n:Int)) (hn:n < 1073741824) (h:∀ r,K (.slice (some ⟨r,0,none⟩) n n) ds ρ ((r,.obj (.cells (List.replicate n z).toArray el (0,0))) :: σ)) :
    wpS C.P ρ (execOp (Af e) ⟨dd,.makeSlice t x y,ty,pos,af,g⟩) σ (NextH C K rd ds ρ):=by
  show wpS C.P ρ ((Instr.makeSlice t (Af e x) (Af e y)).bind _) σ _
  refine Gb ?_
  rw [hx,hy]
  have hw:IntKind.i64.wrap (n:Int) = (n:Int):=Bo rfl (by omega) (by omega)
  unfold Instr.makeSlice
  show wpS C.P ρ ((underlying t).bind _) σ _
  rw [Ad]
  refine Az hT ?_
  show wpS C.P ρ ((typeInfo el).bind _) σ _
  rw [Ad]
  refine Gg hi ?_
  dsimp only
  simp only [hw]
  have hb:(ti.bytes:Int) * n ≤ 1073741824000:=by
    have h1:ti.bytes * n ≤ 1000 * 1073741824:=Nat.mul_le_mul hib (by omega)
    have h2:((ti.bytes * n:Nat):Int) ≤ ((1000 * 1073741824:Nat):Int):=Int.ofNat_le.2 h1
    rw [Int.natCast_mul] at h2
    omega
  rw [if_neg (by simp only [Bool.or_eq_true,decide_eq_true_eq]; omega)]
  simp only [Int.toNat_natCast]
  show wpS C.P ρ ((askRoom (n * ti.bytes)).bind _) σ _
  rw [Ad]
  have hroom:∀ {Q:Unit→Own→Prop} {σ':Own},Q () σ'→wpS C.P ρ (askRoom (n * ti.bytes)) σ' Q:=fun hq=>by
    unfold askRoom
    split
    · exact ⟨rfl,hq⟩
    · exact hq
  refine hroom ?_
  show wpS C.P ρ ((sizeOf el).bind _) σ _
  rw [Ad]
  refine Dw ⟨ti,hi,hik⟩ ?_
  split
  · rename_i h0
    have h0':n = 0:=by omega
    subst h0'
    have e0:∀ zz:Array Value,((Array.range (0 * 1)).map fun i=>zz[i % zz.size]!) = (List.replicate 0 z).toArray:=fun zz=>by apply Array.ext'; simp
    show wpS C.P ρ ((newRow el ((Array.range (0 * 1)).map fun i=>(#[]:Array Value)[i % (#[]:Array Value).size]!)).bind _) σ _
    rw [e0,Ad]
    exact Ia fun r=>h r
  · show wpS C.P ρ ((zeroValue el).bind _) σ _
    rw [Ad]
    refine Jz ⟨ti,hi,hz⟩ ?_
    show wpS C.P ρ ((newRow el ((Array.range (n * 1)).map fun i=>z.cells[i % z.cells.size]!)).bind _) σ _
    have e1:((Array.range (n * 1)).map fun i=>z.cells[i % z.cells.size]!) = (List.replicate n z).toArray:=by
      rw [hzk]
      apply Array.ext'
      simp only [Array.toList_map,Nat.mul_one,Array.toList_range,List.size_toArray,List.length_cons,List.length_nil,Nat.zero_add,Nat.mod_one,List.map_const',List.length_range]
      simp
    rw [e1,Ad]
    exact Ia fun r=>h r
theorem w_makeBools {el:TypeId} {ti:TypeInfo} {n:Nat} (hT:C.P.underlying t = some (.slice el)) (hi:C.P.info? el = some ti) (hik:ti.size = 1) (hib:ti.bytes ≤ 1000) (hz:ti.zero = some (.bool false))
    (hx:Af e x = .int .i64 (n:Int)) (hy:Af e y = .int .i64 (n:Int)) (hn:n < 1073741824) (h:∀ r,K (.slice (some ⟨r,0,none⟩) n n) ds ρ ((r,.obj (.cells ((List.replicate n false).map Value.bool).toArray el (0,0))) :: σ)) :
    wpS C.P ρ (execOp (Af e) ⟨dd,.makeSlice t x y,ty,pos,af,g⟩) σ (NextH C K rd ds ρ) :=
  w_makeSlice hT hi hik hib hz rfl hx hy hn fun r=>by have:=h r; rw [List.map_replicate] at this; exact this
theorem w_makeInts {el:TypeId} {ti:TypeInfo} {n:Nat} (hT:C.P.underlying t = some (.slice el)) (hi:C.P.info? el = some ti) (hik:ti.size = 1) (hib:ti.bytes ≤ 1000) (hz:ti.zero = some (.int .i64 0))
    (hx:Af e x = .int .i64 (n:Int)) (hy:Af e y = .int .i64 (n:Int)) (hn:n < 1073741824) (h:∀ r,K (.slice (some ⟨r,0,none⟩) n n) ds ρ ((r,.obj (.cells ((List.replicate n (0:Int)).map (Value.int .i64)).toArray el (0,0))) :: σ)) :
    wpS C.P ρ (execOp (Af e) ⟨dd,.makeSlice t x y,ty,pos,af,g⟩) σ (NextH C K rd ds ρ) :=
  w_makeSlice hT hi hik hib hz rfl hx hy hn fun r=>by have:=h r; rw [List.map_replicate] at this; exact this
end
end Go.Proofs.YtoefdnbaklajeaaDoor

namespace Go.Proofs.YtoefdnbaklajeaaDoor
open Go
section
variable {C:Ctx} {e:Env} {ds:List Deferred} {ρ:Ro} {σ:Own} {K:Value→List Deferred→Ro→Own→Prop} {rd:Option Nat} {dd:Option Tmp}
variable {ty:TypeId} {pos:String} {af:Array Edge} {g:Option (Nat × Bool)} {x y:Operand} {v p:Value} {t t':TypeId} {P:Program}
theorem y_lenS {a:Option Addr} {n cap:Nat} {el:TypeId} (hT:P.underlying t = some (.slice el)) (hx:Af e x = .slice a n cap):Yld P ρ e (.call ⟨.builtin .len,#[x],#[t]⟩) ty (.int .i64 (n:Int)):=by
  refine Lv (args:=[x]) (vs:=[.slice a n cap]) (s:=fun _=>Builtin.len_ #[t] ty #[.slice a n cap]) (by simp [hx]) (fun cs=>rfl) ?_
  intro ρ' σ' cs _
  show wpS P ρ' ((underlying t).bind _) σ' _
  rw [Ad]
  refine Az hT ?_
  exact ⟨rfl,rfl⟩
end
section
variable {P:Program} {b:FB} {n:Nat} {l₀ rest:List Oper} {Q:Env→List Deferred→Ro→Own→Prop} {e:Env} {ds:List Deferred} {ρ:Ro} {σ:Own}
variable {d:Nat} {ty t:TypeId} {pos:String} {af:Array Edge} {g:Option (Nat × Bool)} {x:Operand} {v z:Value}
end
end Go.Proofs.YtoefdnbaklajeaaDoor

namespace Go.Proofs.YtoefdnbaklajeaaDoor
open Go Go.WideShapes
theorem reach_lt {n:Nat} (h:n ≤ reachBytes):n < 2 ^ 60:=by unfold reachBytes at h; omega
theorem dec_int {t:TypeId} (ht:Tryd.prog.underlying t = some (.int .i64)) (hc:Tryd.prog.cellsOf t = 1):Apq Int t :=
  ⟨hc,fun H enc W fuel cs x h _=>by
    obtain ⟨n,h1,_,h3⟩:=DataW.trod_int ht h
    refine ⟨n,h1,?_⟩
    simp [Lit.wf,IntKind.min,IntKind.max,IntKind.signed,IntKind.bits] at h3
    exact ⟨by omega,by omega⟩⟩
theorem dec_str {t:TypeId} (ht:Tryd.prog.underlying t = some .string) (hc:Tryd.prog.cellsOf t = 1):Apq ByteArray t :=
  ⟨hc,fun H enc W fuel cs x h hw=>by
    obtain ⟨s,h1,h2,_⟩:=DataW.trod_string ht h
    refine ⟨s,h1,reach_lt ?_⟩
    have:=hw s.data.toList.length (by rw [h2]; simp [DataW.weights])
    simpa using this⟩
theorem list_of {α:Type} {P:Nat→α→Prop}:∀ n,(∀ i,i < n→∃ a,P i a)→∃ xs:List α,xs.length = n∧∀ i x,xs[i]? = some x→P i x
  | 0,_=>⟨[],rfl,fun i x h=>by cases h⟩
  | n + 1,h=>by
    obtain ⟨xs,h1,h2⟩:=list_of n fun i hi=>h i (by omega)
    obtain ⟨a,ha⟩:=h n (by omega)
    refine ⟨xs ++ [a],by simp [h1],fun i x hx=>?_⟩
    rcases Nat.lt_or_ge i n with hlt | hge
    · rw [List.getElem?_append_left (by omega)] at hx; exact h2 i x hx
    · have hi:i = n:=by
        have:=(List.getElem?_eq_some_iff.1 hx).1
        simp only [List.length_append,List.length_singleton] at this; omega
      subst hi
      rw [List.getElem?_append_right (by omega),h1,Nat.sub_self] at hx
      cases hx; exact ha
theorem add_0 {a:Addr}:a.add 0 = a:=by simp [Addr.add]
theorem add_none {b off i:Nat}:(⟨b,off,none⟩:Addr).add i = ⟨b,off + i,none⟩:=by
  unfold Addr.add; split
  · rename_i h; subst h; rfl
  · rfl
theorem row_cells {W:World} {a:Addr} {k:Nat} {cs:List Value} (hk:1 ≤ k) (h:W.cells? 0 a k = some cs):∃ b off c t fz rest,a = ⟨b,off,none⟩∧W.heap[b]? = some (.cells c t fz)∧c.toList.drop off = cs ++ rest∧cs.length = k:=by
  unfold World.cells? at h
  rw [if_pos (Nat.zero_le _)] at h
  have hl:=mapM_some_length h
  rw [List.length_range] at hl
  have hg:∀ j,j < k→W.cell? (a.add j) = cs[j]?:=fun j hj=>mapM_some_get h j j (by rw [List.getElem?_range hj])
  obtain ⟨b,off,spot⟩:=a
  have h0:=hg 0 hk
  rw [add_0] at h0
  obtain ⟨v,hv⟩:∃ v,cs[0]? = some v:=⟨_,List.getElem?_eq_getElem (by omega)⟩
  rw [hv] at h0
  unfold World.cell? at h0
  simp only at h0
  cases hb:W.heap[b]? with
  | none=>rw [hb] at h0; cases h0
  | some o =>
    cases o with
    | cells c t fz =>
      rw [hb] at h0
      simp only at h0
      cases spot with
      | some s=>simp at h0
      | none =>
        refine ⟨b,off,c,t,fz,(c.toList.drop off).drop k,rfl,hb,?_,hl⟩
        have e1:(c.toList.drop off).take k = cs:=by
          apply List.ext_getElem?
          intro j
          rw [List.getElem?_take]
          by_cases hj:j < k
          · rw [if_pos hj,← hg j hj,List.getElem?_drop,add_none]
            unfold World.cell?
            simp only [hb]
            simp
          · rw [if_neg hj,List.getElem?_eq_none (by omega)]
        rw [← e1,List.take_append_drop]
    | _=>rw [hb] at h0; cases h0
theorem weightsAll_mem {H:Type} {P:Program} {e:TypeId}:∀ {ds:List (DataW H)} {d:DataW H} {n:Nat},d ∈ ds→n ∈ d.weights P e→n ∈ DataW.weightsAll P e ds
  | [],_,_,h,_=>by cases h
  | d' :: ds,d,n,h,hn=>by
    rw [DataW.weightsAll,List.mem_append]
    rcases List.mem_cons.1 h with rfl | h
    · exact .inl hn
    · exact .inr (weightsAll_mem h hn)
theorem dec_list {α:Type} [Dat α] {t e:TypeId} (ht:Tryd.prog.underlying t = some (.slice e)) (hc:Tryd.prog.cellsOf t = 1) (hb:1 ≤ Tryd.prog.bytesOf e) (hk:1 ≤ Dat.k α) (he:Apq α e):Apq (List α) t :=
  ⟨hc,fun H enc W fuel cs x h hw=>by
    rcases DataW.trod_slice ht h with ⟨h1,_⟩ | ⟨a,len,cap,Av,rest,n,_,h2,h3,_,h5,_,h6,h7,_,_⟩
    · exact ⟨[],_,h1,none,0,0,rfl,rfl,by omega,Nat.le_refl _,fun i x hx=>by cases hx⟩
    · rw [h3] at hw
      simp only [DataW.weights,ht] at hw
      have hlen:len < 2 ^ 60:=by
        have:=hw _ (List.mem_cons_self ..)
        simp only [List.length_map] at this
        refine reach_lt (Nat.le_trans ?_ this)
        rw [h6]
        exact Nat.le_trans (Nat.le_trans (Nat.le_add_right _ _) (Nat.le_of_eq (Nat.mul_one _).symm)) (Nat.mul_le_mul_left _ hb)
      obtain ⟨xs,hx1,hx2⟩:=list_of (P:=fun i (y:α)=>∃ cs,W.cells? 0 (a.add (i * Tryd.prog.cellsOf e)) (Tryd.prog.cellsOf e) = some cs∧Dat.rep (roW W) cs y) len fun i hi=>by
        have h8:=h7 i hi
        obtain ⟨y,hy⟩:∃ y,Av[i]? = some y:=⟨_,List.getElem?_eq_getElem (by omega)⟩
        rw [hy,Option.bind_eq_some_iff] at h8
        obtain ⟨ci,hc1,hc2⟩:=h8
        obtain ⟨z,hz⟩:=he.2 H enc W n ci y hc2 fun m hm=>hw m (List.mem_cons_of_mem _ (List.mem_append_left _ (weightsAll_mem (List.mem_map_of_mem (List.mem_of_getElem? hy)) hm)))
        exact ⟨z,ci,hc1,hz⟩
      refine ⟨xs,_,h2,some a,len,cap,rfl,hx1,hlen,h5,fun i y hy=>?_⟩
      obtain ⟨b',off',rfl⟩:∃ b' off',a = ⟨b',off',none⟩:=by
        have hi:=(List.getElem?_eq_some_iff.1 hy).1
        obtain ⟨y0,hy0⟩:∃ y0,xs[0]? = some y0:=⟨_,List.getElem?_eq_getElem (by omega)⟩
        obtain ⟨ci,hc1,_⟩:=hx2 0 y0 hy0
        rw [he.1,Nat.zero_mul,add_0] at hc1
        obtain ⟨b,off,_,_,_,_,h8,_⟩:=row_cells hk hc1
        exact ⟨b,off,h8⟩
      obtain ⟨ci,hc1,hc2⟩:=hx2 i y hy
      rw [he.1,add_none] at hc1
      obtain ⟨b,off,c,t',fz,rs,h8,h9,h10,_⟩:=row_cells hk hc1
      simp only [Addr.mk.injEq,and_true] at h8
      obtain ⟨rfl,rfl⟩:=h8
      exact ⟨b',off',rfl,b',_,c,t',fz,ci,rs,rfl,Vs h9,hc2,h10⟩⟩
theorem cut_at (cs:List Value) (a k:Nat):cs.drop a = (cs.drop a).take k ++ cs.drop (a + k):=by rw [← List.drop_drop,List.take_append_drop]
theorem field_at {H:Type} {enc:TypeId × Value→H} {W:World} {n:Nat} {cs:List Value} {xs:List (DataW H × List MemPlace)} {fs:Array Field} {t:TypeId} (ht:Tryd.prog.underlying t = some (.struct fs)) (hl:xs.length = fs.size) (h:∀ (i:Nat) (f:Field),fs[i]? = some f→DataW.trod enc Tryd.prog W 0 (fun _=>true) true n f.type ((cs.drop f.offset).take (Tryd.prog.cellsOf f.type)) = xs[i]?)
    (hw:∀ m ∈ (DataW.agg (xs.map (·.1)):DataW H).weights Tryd.prog t,m ≤ reachBytes) {α:Type} [Dat α] {i ft off:Nat} {f:Field} (hf:fs[i]? = some f) (h1:f.type = ft) (h2:f.offset = off) (hd:Apq α ft):∃ a:α,Dat.rep (roW W) ((cs.drop off).take (Dat.k α)) a:=by
  subst h1 h2
  have hi:=(Array.getElem?_eq_some_iff.1 hf).1
  obtain ⟨y,hy⟩:∃ y,xs[i]? = some y:=⟨_,List.getElem?_eq_getElem (by omega)⟩
  have h3:=h i f hf
  rw [hy,hd.1] at h3
  refine hd.2 H enc W n _ y h3 fun m hm=>hw m ?_
  simp only [DataW.weights,ht]
  exact DataW.weights_mem_each (j:=i) (t:=f.type) (d:=y.1) (by simp [Array.getElem?_toList,hf]) (by simp [hy]) m hm
theorem dec65:Apq Span 65:=⟨by kernel_rfl,fun H enc W fuel cs x h hw=>by
  obtain ⟨xs,n,_,rfl,hcl,hl,hf⟩:=DataW.trod_struct Tryd.underlying65 h
  rw [show Tryd.prog.cellsOf 65 = 2 from by kernel_rfl] at hcl
  obtain ⟨a0,r0⟩:=field_at (i:=0) Tryd.underlying65 hl hf hw rfl rfl (show _ = 0 from rfl) (dec_int Tryd.underlying3 (by kernel_rfl))
  obtain ⟨a1,r1⟩:=field_at (i:=1) Tryd.underlying65 hl hf hw rfl rfl (show _ = 1 from rfl) (dec_int Tryd.underlying3 (by kernel_rfl))
  refine ⟨⟨a0,a1⟩,?_⟩
  have e0:cs = cs.drop 0:=rfl
  rw [e0]
  exact ⟨(cs.drop 0).take 1,cs.drop 1,(cut_at cs 0 1).trans (by rfl),r0,(show Dat.rep (roW W) (cs.drop 1) a1 from by (have:=r1; rw [List.take_of_length_le (by rw [List.length_drop,hcl]; decide)] at this; exact this))⟩⟩
theorem dec67:Apq FField 67:=⟨by kernel_rfl,fun H enc W fuel cs x h hw=>by
  obtain ⟨xs,n,_,rfl,hcl,hl,hf⟩:=DataW.trod_struct Tryd.underlying67 h
  rw [show Tryd.prog.cellsOf 67 = 5 from by kernel_rfl] at hcl
  obtain ⟨a0,r0⟩:=field_at (i:=0) Tryd.underlying67 hl hf hw rfl rfl (show _ = 0 from rfl) (dec_str Tryd.underlying9 (by kernel_rfl))
  obtain ⟨a1,r1⟩:=field_at (i:=1) Tryd.underlying67 hl hf hw rfl rfl (show _ = 1 from rfl) (dec_int Tryd.underlying3 (by kernel_rfl))
  obtain ⟨a2,r2⟩:=field_at (i:=2) Tryd.underlying67 hl hf hw rfl rfl (show _ = 2 from rfl) dec65
  obtain ⟨a3,r3⟩:=field_at (i:=3) Tryd.underlying67 hl hf hw rfl rfl (show _ = 4 from rfl) (dec_list Tryd.underlying27 (by kernel_rfl) (Nat.le_of_ble_eq_true (by kernel_rfl)) (by decide) dec65)
  refine ⟨⟨a0,a1,a2,a3⟩,?_⟩
  have e0:cs = cs.drop 0:=rfl
  rw [e0]
  exact ⟨(cs.drop 0).take 1,cs.drop 1,(cut_at cs 0 1).trans (by rfl),r0,⟨(cs.drop 1).take 1,cs.drop 2,(cut_at cs 1 1).trans (by rfl),r1,⟨(cs.drop 2).take 2,cs.drop 4,(cut_at cs 2 2).trans (by rfl),r2,(show Dat.rep (roW W) (cs.drop 4) a3 from by (have:=r3; rw [List.take_of_length_le (by rw [List.length_drop,hcl]; decide)] at this; exact this))⟩⟩⟩⟩
theorem dec59:Apq Sale 59:=⟨by kernel_rfl,fun H enc W fuel cs x h hw=>by
  obtain ⟨xs,n,_,rfl,hcl,hl,hf⟩:=DataW.trod_struct Tryd.underlying59 h
  rw [show Tryd.prog.cellsOf 59 = 2 from by kernel_rfl] at hcl
  obtain ⟨a0,r0⟩:=field_at (i:=0) Tryd.underlying59 hl hf hw rfl rfl (show _ = 0 from rfl) (dec_int Tryd.underlying3 (by kernel_rfl))
  obtain ⟨a1,r1⟩:=field_at (i:=1) Tryd.underlying59 hl hf hw rfl rfl (show _ = 1 from rfl) (dec_list Tryd.underlying30 (by kernel_rfl) (Nat.le_of_ble_eq_true (by kernel_rfl)) (by decide) (dec_int Tryd.underlying3 (by kernel_rfl)))
  refine ⟨⟨a0,a1⟩,?_⟩
  have e0:cs = cs.drop 0:=rfl
  rw [e0]
  exact ⟨(cs.drop 0).take 1,cs.drop 1,(cut_at cs 0 1).trans (by rfl),r0,(show Dat.rep (roW W) (cs.drop 1) a1 from by (have:=r1; rw [List.take_of_length_le (by rw [List.length_drop,hcl]; decide)] at this; exact this))⟩⟩
theorem dec26:Apq Market 26:=⟨by kernel_rfl,fun H enc W fuel cs x h hw=>by
  obtain ⟨xs,n,_,rfl,hcl,hl,hf⟩:=DataW.trod_struct Tryd.underlying26 h
  rw [show Tryd.prog.cellsOf 26 = 4 from by kernel_rfl] at hcl
  obtain ⟨a0,r0⟩:=field_at (i:=0) Tryd.underlying26 hl hf hw rfl rfl (show _ = 0 from rfl) (dec_list Tryd.underlying22 (by kernel_rfl) (Nat.le_of_ble_eq_true (by kernel_rfl)) (by decide) (dec_str Tryd.underlying9 (by kernel_rfl)))
  obtain ⟨a1,r1⟩:=field_at (i:=1) Tryd.underlying26 hl hf hw rfl rfl (show _ = 1 from rfl) (dec_list Tryd.underlying22 (by kernel_rfl) (Nat.le_of_ble_eq_true (by kernel_rfl)) (by decide) (dec_str Tryd.underlying9 (by kernel_rfl)))
  obtain ⟨a2,r2⟩:=field_at (i:=2) Tryd.underlying26 hl hf hw rfl rfl (show _ = 2 from rfl) (dec_list Tryd.underlying23 (by kernel_rfl) (Nat.le_of_ble_eq_true (by kernel_rfl)) (by decide) dec67)
  obtain ⟨a3,r3⟩:=field_at (i:=3) Tryd.underlying26 hl hf hw rfl rfl (show _ = 3 from rfl) (dec_list Tryd.underlying24 (by kernel_rfl) (Nat.le_of_ble_eq_true (by kernel_rfl)) (by decide) dec59)
  refine ⟨⟨a0,a1,a2,a3⟩,?_⟩
  have e0:cs = cs.drop 0:=rfl
  rw [e0]
  exact ⟨(cs.drop 0).take 1,cs.drop 1,(cut_at cs 0 1).trans (by rfl),r0,⟨(cs.drop 1).take 1,cs.drop 2,(cut_at cs 1 1).trans (by rfl),r1,⟨(cs.drop 2).take 1,cs.drop 3,(cut_at cs 2 1).trans (by rfl),r2,(show Dat.rep (roW W) (cs.drop 3) a3 from by (have:=r3; rw [List.take_of_length_le (by rw [List.length_drop,hcl]; decide)] at this; exact this))⟩⟩⟩⟩
end Go.Proofs.YtoefdnbaklajeaaDoor

namespace Go.Proofs.YtoefdnbaklajeaaDoor
open Go Go.WideShapes Go.ChangeShapes Go.RowKit Go.Conc
section
variable {H:Type} {enc:TypeId × Value→H} {W:World} {r:Reach} {base t:Nat} {v:Value} {d:DataW H} {p:List MemPlace}
end
theorem weights_at {H:Type} {P:Program} {ts:List TypeId} {ds:List (DataW H)} (h:(DataW.weightsEach P ts ds).all (· ≤ reachBytes) = true) {j:Nat} {t:TypeId} {d:DataW H} (ht:ts[j]? = some t) (hd:ds[j]? = some d):∀ n ∈ d.weights P t,n ≤ reachBytes:=fun n hn=>by
  have:=List.all_eq_true.1 h _ (DataW.weights_mem_each ht hd n hn)
  simpa using this
end Go.Proofs.YtoefdnbaklajeaaDoor

namespace Go.Proofs.YtoefdnbaklajeaaDoor
open Go
theorem okAll_t {s:ByteArray}:(List.range s.size).all (Alz s) = true↔∀ j,j < s.size→Alz s j = true:=by simp
theorem okAll_f {s:ByteArray} {j:Nat} (h:j < s.size) (h0:Alz s j = false):(List.range s.size).all (Alz s) = false:=by
  cases hh:(List.range s.size).all (Alz s) with
  | false=>rfl
  | true=>rw [okAll_t.1 hh j h] at h0; cases h0
end Go.Proofs.YtoefdnbaklajeaaDoor

namespace Go.Proofs.YtoefdnbaklajeaaDoor
open Go
set_option maxRecDepth 100000 in
theorem c_In {mn:Bool} {X:Frame→List Frame→Ro→Own→Cy→Prop} {ρ:Ro} {σ:Own} {n low high:Int} :CallsH (CX mn X) 79 #[(iV (n)),(iV (low)),(iV (high))] ρ σ (fun w ρ' σ'=>ρ' = ρ∧σ' = σ∧w = (.bool (inR n low high))):=by
 refine Bh (n:=15) (args:=[(iV (n)),(iV (low)),(iV (high))]) [6] Tryd.func79 rfl rfl rfl rfl fun Q hret hnor=>?_
 refine w_q rfl rfl fun K1 k1=>?_
 refine l_A (.bool (false)) rfl rfl ?_
 apply Ac
 apply k1
 refine w_q rfl rfl fun K2 k2=>?_
 refine l_M (iV (low)) rfl rfl ?_
 refine l_M (iV (n)) rfl rfl ?_
 refine Aa rfl (Tx (p:=low) (q:=n) rfl rfl) ?_
 refine l_M (.bool (decide (low ≤ n))) rfl rfl ?_
 refine Cn (decide (low ≤ n)) (fun b3=>?_) (fun b3=>?_)
 ·have q3:=of_decide_eq_true b3
  refine l_M (iV (n)) (Ar rfl rfl rfl b3) rfl ?_
  refine l_M (iV (high)) (Ar rfl rfl rfl b3) rfl ?_
  refine Aa (Ar rfl rfl rfl b3) (Tx (p:=n) (q:=high) rfl rfl) ?_
  refine Aa rfl (Bt rfl b3 (v:=(.bool (decide (n ≤ high)))) rfl) ?_
  refine l_A (.bool (decide (n ≤ high))) rfl rfl ?_
  apply Ac
  apply k2
  refine Aq ?_
  refine hret _ _ _ ?_
  refine ⟨rfl,rfl,Eq.trans (b:=(.bool (decide (n ≤ high)))) rfl ?_⟩
  simp only [inR,b3,Bool.true_and,Bool.false_and,Bool.and_true,Bool.and_false,Bool.true_or,Bool.false_or,Bool.or_true,Bool.or_false,Bool.not_true,Bool.not_false]
 have q3:=of_decide_eq_false b3
 refine Ap (Bl rfl rfl rfl b3) ?_
 refine Ap (Bl rfl rfl rfl b3) ?_
 refine Ap (Bl rfl rfl rfl b3) ?_
 refine Aa rfl (Bm rfl b3 (v:=(.bool (false))) rfl) ?_
 refine l_A (.bool (false)) rfl rfl ?_
 apply Ac
 apply k2
 refine Aq ?_
 refine hret _ _ _ ?_
 refine ⟨rfl,rfl,Eq.trans (b:=(.bool (false))) rfl ?_⟩
 simp only [inR,b3,Bool.true_and,Bool.false_and,Bool.and_true,Bool.and_false,Bool.true_or,Bool.false_or,Bool.or_true,Bool.or_false,Bool.not_true,Bool.not_false]
set_option maxRecDepth 100000 in
theorem c_Inside {mn:Bool} {X:Frame→List Frame→Ro→Own→Cy→Prop} {ρ:Ro} {σ:Own} {x:Span} {vx:Value} {low high:Int} (rx:Val ρ vx x):CallsH (CX mn X) 80 #[vx,(iV (low)),(iV (high))] ρ σ (fun w ρ' σ'=>ρ' = ρ∧σ' = σ∧w = (.bool (Eg x low high))):=by
 refine Bh (n:=24) (args:=[vx,(iV (low)),(iV (high))]) [6] Tryd.func80 rfl rfl rfl rfl fun Q hret hnor=>?_
 refine w_q rfl rfl fun K1 k1=>?_
 refine Ae rfl (Eb (v:=vx) rfl fun k2=>?_)
 refine Bb (a:=x) rx fun ρ2 l2 r2=>?_
 replace rx:=Asa l2 rx
 refine l_A (.bool (false)) rfl rfl ?_
 apply Ac
 apply k1
 refine w_q rfl rfl fun K3 k3=>?_
 refine l_M (iV (low)) rfl rfl ?_
 refine Ak rfl (Ay Span.f_low Tryd.underlying65 rfl rfl ty3 (by decide) rfl r2) fun v4 r4=>?_
 have ⟨g5a,g5b⟩:=At.rng r4
 refine Aa rfl (Bc ty3 rfl r4) ?_
 refine Aa rfl (Tx (p:=low) (q:=x.low) rfl rfl) ?_
 refine l_M (.bool (decide (low ≤ x.low))) rfl rfl ?_
 refine Cn (decide (low ≤ x.low)) (fun b6=>?_) (fun b6=>?_)
 ·have q6:=of_decide_eq_true b6
  refine Ak (Ar rfl rfl rfl b6) (Ay Span.f_low Tryd.underlying65 rfl rfl ty3 (by decide) rfl r2) fun v7 r7=>?_
  have ⟨g8a,g8b⟩:=At.rng r7
  refine Aa (Ar rfl rfl rfl b6) (Bc ty3 rfl r7) ?_
  refine Ak (Ar rfl rfl rfl b6) (Ay Span.f_high Tryd.underlying65 rfl rfl ty3 (by decide) rfl r2) fun v9 r9=>?_
  have ⟨g10a,g10b⟩:=At.rng r9
  refine Aa (Ar rfl rfl rfl b6) (Bc ty3 rfl r9) ?_
  refine Aa (Ar rfl rfl rfl b6) (Tx (p:=x.low) (q:=x.high) rfl rfl) ?_
  refine Aa rfl (Bt rfl b6 (v:=(.bool (decide (x.low ≤ x.high)))) rfl) ?_
  refine l_M (.bool (decide (x.low ≤ x.high))) rfl rfl ?_
  refine Cn (decide (x.low ≤ x.high)) (fun b11=>?_) (fun b11=>?_)
  ·have q11:=of_decide_eq_true b11
   refine Ak (Ar rfl rfl rfl b11) (Ay Span.f_high Tryd.underlying65 rfl rfl ty3 (by decide) rfl r2) fun v12 r12=>?_
   have ⟨g13a,g13b⟩:=At.rng r12
   refine Aa (Ar rfl rfl rfl b11) (Bc ty3 rfl r12) ?_
   refine l_M (iV (high)) (Ar rfl rfl rfl b11) rfl ?_
   refine Aa (Ar rfl rfl rfl b11) (Tx (p:=x.high) (q:=high) rfl rfl) ?_
   refine Aa rfl (Bt rfl b11 (v:=(.bool (decide (x.high ≤ high)))) rfl) ?_
   refine l_A (.bool (decide (x.high ≤ high))) rfl rfl ?_
   apply Ac
   apply k3
   refine Aj (Arw l2) ?_
   refine Aq ?_
   refine hret _ _ _ ?_
   refine ⟨rfl,rfl,Eq.trans (b:=(.bool (decide (x.high ≤ high)))) rfl ?_⟩
   simp only [Eg,b6,b11,Bool.true_and,Bool.false_and,Bool.and_true,Bool.and_false,Bool.true_or,Bool.false_or,Bool.or_true,Bool.or_false,Bool.not_true,Bool.not_false]
  have q11:=of_decide_eq_false b11
  refine Ap (Bl rfl rfl rfl b11) ?_
  refine Ap (Bl rfl rfl rfl b11) ?_
  refine Ap (Bl rfl rfl rfl b11) ?_
  refine Ap (Bl rfl rfl rfl b11) ?_
  refine Aa rfl (Bm rfl b11 (v:=(.bool (false))) rfl) ?_
  refine l_A (.bool (false)) rfl rfl ?_
  apply Ac
  apply k3
  refine Aj (Arw l2) ?_
  refine Aq ?_
  refine hret _ _ _ ?_
  refine ⟨rfl,rfl,Eq.trans (b:=(.bool (false))) rfl ?_⟩
  simp only [Eg,b6,b11,Bool.true_and,Bool.false_and,Bool.and_true,Bool.and_false,Bool.true_or,Bool.false_or,Bool.or_true,Bool.or_false,Bool.not_true,Bool.not_false]
 have q6:=of_decide_eq_false b6
 refine Ap (Bl rfl rfl rfl b6) ?_
 refine Ap (Bl rfl rfl rfl b6) ?_
 refine Ap (Bl rfl rfl rfl b6) ?_
 refine Ap (Bl rfl rfl rfl b6) ?_
 refine Ap (Bl rfl rfl rfl b6) ?_
 refine Aa rfl (Bm rfl b6 (v:=(.bool (false))) rfl) ?_
 refine l_M (.bool (false)) rfl rfl ?_
 refine Ap (Bl rfl rfl rfl rfl) ?_
 refine Ap (Bl rfl rfl rfl rfl) ?_
 refine Ap (Bl rfl rfl rfl rfl) ?_
 refine Ap (Bl rfl rfl rfl rfl) ?_
 refine Aa rfl (Bm rfl rfl (v:=(.bool (false))) rfl) ?_
 refine l_A (.bool (false)) rfl rfl ?_
 apply Ac
 apply k3
 refine Aj (Arw l2) ?_
 refine Aq ?_
 refine hret _ _ _ ?_
 refine ⟨rfl,rfl,Eq.trans (b:=(.bool (false))) rfl ?_⟩
 simp only [Eg,b6,Bool.true_and,Bool.false_and,Bool.and_true,Bool.and_false,Bool.true_or,Bool.false_or,Bool.or_true,Bool.or_false,Bool.not_true,Bool.not_false]
set_option maxRecDepth 100000 in
theorem c_Name {mn:Bool} {X:Frame→List Frame→Ro→Own→Cy→Prop} {ρ:Ro} {σ:Own} {s:ByteArray} :CallsH (CX mn X) 78 #[(.string (s))] ρ σ (fun w ρ' σ'=>ρ' = ρ∧σ' = σ∧w = (.bool (Hi s))):=by
 refine Bh (n:=46) (args:=[(.string (s))]) [2] Tryd.func78 rfl rfl rfl rfl fun Q hret hnor=>?_
 refine w_q rfl rfl fun K1 k1=>?_
 refine l_A (.bool (false)) rfl rfl ?_
 apply Ac
 apply k1
 refine Ai fun K2 k2=>?_
 refine w_q rfl rfl fun K3 k3=>?_
 refine l_M (.string (s)) rfl rfl ?_
 refine Aa rfl (Afb Tryd.underlying9 (s:=s) rfl) ?_
 refine Ae rfl (Bn (vs:=[(iV (((s.size:Nat):Int))),(iV (1)),(iV (14))]) (v:=(.bool (inR (((s.size:Nat):Int)) 1 14))) (c_In) Tryd.func79 rfl rfl ⟨rfl,rfl,rfl,trivial⟩ ?_)
 refine Aa rfl (Ix (k:=inR (((s.size:Nat):Int)) 1 14) rfl) ?_
 refine l_M (.bool (!(inR (((s.size:Nat):Int)) 1 14))) rfl rfl ?_
 refine Cn (!(inR (((s.size:Nat):Int)) 1 14)) (fun b4=>?_) (fun b4=>?_)
 ·have b5:=not_eq_t b4
  have q5:=Ui.1 b5
  refine Ap (Bl rfl rfl rfl b4) ?_
  refine Ap (Bl rfl rfl rfl b4) ?_
  refine Ap (Bl rfl rfl rfl b4) ?_
  refine Aa rfl (Bt rfl b4 (v:=(.bool (true))) rfl) ?_
  refine l_M (.bool (true)) rfl rfl ?_
  refine Ap (Bl rfl rfl rfl rfl) ?_
  refine Ap (Bl rfl rfl rfl rfl) ?_
  refine Ap (Bl rfl rfl rfl rfl) ?_
  refine Aa rfl (Bt rfl rfl (v:=(.bool (true))) rfl) ?_
  apply Ac
  apply k3
  refine Co rfl rfl ?_
  refine w_q rfl rfl fun K6 k6=>?_
  refine l_A (.bool (false)) rfl rfl ?_
  apply Ac
  apply k6
  refine Aq ?_
  refine hret _ _ _ ?_
  refine ⟨rfl,rfl,Eq.trans (b:=(.bool (false))) rfl ?_⟩
  simp only [Hi,Pu,b4,b5,Bool.true_and,Bool.false_and,Bool.and_true,Bool.and_false,Bool.true_or,Bool.false_or,Bool.or_true,Bool.or_false,Bool.not_true,Bool.not_false]
 have b7:=not_eq_f b4
 have q7:=Ge.1 b7
 refine l_M (.string (s)) (Ar rfl rfl rfl b4) rfl ?_
 obtain ⟨c8,hc8⟩:=Alh (s:=s) (i:=0) (by omega)
 refine Aa (Ar rfl rfl rfl b4) (Aaw 0 c8 Tryd.underlying9 rfl (q:=0) rfl rfl hc8) ?_
 refine Aa (Ar rfl rfl rfl b4) (Da (p:=((c8.toNat:Nat):Int)) (q:=97) rfl rfl) ?_
 refine Aa rfl (Bm rfl b4 (v:=(.bool (decide (((c8.toNat:Nat):Int) < 97)))) rfl) ?_
 refine l_M (.bool (decide (((c8.toNat:Nat):Int) < 97))) rfl rfl ?_
 refine Cn (decide (((c8.toNat:Nat):Int) < 97)) (fun b9=>?_) (fun b9=>?_)
 ·have q9:=of_decide_eq_true b9
  refine Ap (Bl rfl rfl rfl b9) ?_
  refine Ap (Bl rfl rfl rfl b9) ?_
  refine Ap (Bl rfl rfl rfl b9) ?_
  refine Aa rfl (Bt rfl b9 (v:=(.bool (true))) rfl) ?_
  apply Ac
  apply k3
  refine Co rfl rfl ?_
  refine w_q rfl rfl fun K10 k10=>?_
  refine l_A (.bool (false)) rfl rfl ?_
  apply Ac
  apply k10
  refine Aq ?_
  refine hret _ _ _ ?_
  refine ⟨rfl,rfl,Eq.trans (b:=(.bool (false))) rfl ?_⟩
  simp only [Hi,Pu,hc8,b4,b7,b9,Bool.true_and,Bool.false_and,Bool.and_true,Bool.and_false,Bool.true_or,Bool.false_or,Bool.or_true,Bool.or_false,Bool.not_true,Bool.not_false]
 have q9:=of_decide_eq_false b9
 refine l_M (.string (s)) (Ar rfl rfl rfl b9) rfl ?_
 refine Aa (Ar rfl rfl rfl b9) (Aaw 0 c8 Tryd.underlying9 rfl (q:=0) rfl rfl hc8) ?_
 refine Aa (Ar rfl rfl rfl b9) (Gk (p:=((c8.toNat:Nat):Int)) (q:=122) rfl rfl) ?_
 refine Aa rfl (Bm rfl b9 (v:=(.bool (decide (((c8.toNat:Nat):Int) > 122)))) rfl) ?_
 apply Ac
 apply k3
 refine As (t:=decide (((c8.toNat:Nat):Int) > 122)) rfl (fun b12=>?_) (fun b12=>?_)
 ·have q12:=of_decide_eq_true b12
  refine w_q rfl rfl fun K13 k13=>?_
  refine l_A (.bool (false)) rfl rfl ?_
  apply Ac
  apply k13
  refine Aq ?_
  refine hret _ _ _ ?_
  refine ⟨rfl,rfl,Eq.trans (b:=(.bool (false))) rfl ?_⟩
  simp only [Hi,Pu,hc8,b4,b7,b9,b12,Bool.true_and,Bool.false_and,Bool.and_true,Bool.and_false,Bool.true_or,Bool.false_or,Bool.or_true,Bool.or_false,Bool.not_true,Bool.not_false]
 have q12:=of_decide_eq_false b12
 refine Al ?_
 apply k2
 refine Ai fun K14 k14=>?_
 refine w_q rfl rfl fun K15 k15=>?_
 refine l_A (iV (0)) rfl rfl ?_
 apply Ac
 apply k15
 refine Ao ?_
 refine Cc (fun mm ee dd ρ' σ'=>∃ (i:Nat),(s.size - i) = mm∧[] = dd∧ρ = ρ'∧σ = σ'∧ee 0 = (.string (s))∧ee 3 = (iV ((i:Int)))∧(i ≤ s.size)∧(∀ j,j < i→Alz s j = true)∧True) (m:=_) ⟨0,rfl,rfl,rfl,rfl,rfl,rfl,(Nat.zero_le _),(fun j h=>absurd h (Nat.not_lt_zero _)),trivial⟩ ?_
 rintro m16 e16 _ _ _ ⟨i,rfl,rfl,rfl,rfl,h16_0,h16_3,p16_0,p16_1,_⟩
 refine Ai fun K17 k17=>?_
 refine w_q rfl rfl fun K18 k18=>?_
 refine Aa rfl (Ah (v:=(iV ((i:Int)))) h16_3) ?_
 refine Aa rfl (Ah (v:=(.string (s))) h16_0) ?_
 refine Aa rfl (Afb Tryd.underlying9 (s:=s) rfl) ?_
 refine Aa rfl (Da (p:=(i:Int)) (q:=((s.size:Nat):Int)) rfl rfl) ?_
 apply Ac
 apply k18
 refine As (t:=decide ((i:Int) < ((s.size:Nat):Int))) rfl (fun b19=>?_) (fun b19=>?_)
 ·have q19:=of_decide_eq_true b19
  refine Al ?_
  apply k17
  refine Ai fun K20 k20=>?_
  refine Ao ?_
  refine w_q rfl rfl fun K21 k21=>?_
  refine Aa rfl (Ah (v:=(.string (s))) h16_0) ?_
  refine Aa rfl (Ah (v:=(iV ((i:Int)))) h16_3) ?_
  obtain ⟨c22,hc22⟩:=Alh (s:=s) (i:=i) (by omega)
  refine Aa rfl (Aaw i c22 Tryd.underlying9 rfl (q:=(i:Int)) rfl rfl hc22) ?_
  refine l_A (.int .u8 (((c22.toNat:Nat):Int))) rfl rfl ?_
  apply Ac
  apply k21
  refine w_q rfl rfl fun K23 k23=>?_
  refine l_M (.int .u8 (((c22.toNat:Nat):Int))) rfl rfl ?_
  refine Aa rfl (Da (p:=((c22.toNat:Nat):Int)) (q:=97) rfl rfl) ?_
  refine l_M (.bool (decide (((c22.toNat:Nat):Int) < 97))) rfl rfl ?_
  refine Cn (decide (((c22.toNat:Nat):Int) < 97)) (fun b24=>?_) (fun b24=>?_)
  ·have q24:=of_decide_eq_true b24
   refine Ap (Bl rfl rfl rfl b24) ?_
   refine Ap (Bl rfl rfl rfl b24) ?_
   refine Aa rfl (Bt rfl b24 (v:=(.bool (true))) rfl) ?_
   refine l_M (.bool (true)) rfl rfl ?_
   refine l_M (.int .u8 (((c22.toNat:Nat):Int))) (Ar rfl rfl rfl rfl) rfl ?_
   refine Aa (Ar rfl rfl rfl rfl) (Da (p:=((c22.toNat:Nat):Int)) (q:=48) rfl rfl) ?_
   refine l_M (.bool (decide (((c22.toNat:Nat):Int) < 48))) (Ar rfl rfl rfl rfl) rfl ?_
   refine Cn (decide (((c22.toNat:Nat):Int) < 48)) (fun b25=>?_) (fun b25=>?_)
   ·have q25:=of_decide_eq_true b25
    refine Ap (Bl rfl rfl rfl b25) ?_
    refine Ap (Bl rfl rfl rfl b25) ?_
    refine Aa (Ar rfl rfl rfl rfl) (Bt rfl b25 (v:=(.bool (true))) rfl) ?_
    refine Aa rfl (Bt rfl rfl (v:=(.bool (true))) rfl) ?_
    refine l_M (.bool (true)) rfl rfl ?_
    refine l_M (.int .u8 (((c22.toNat:Nat):Int))) (Ar rfl rfl rfl rfl) rfl ?_
    refine Aa (Ar rfl rfl rfl rfl) (Dg (p:=((c22.toNat:Nat):Int)) (q:=45) rfl rfl) ?_
    refine Aa rfl (Bt rfl rfl (v:=(.bool (((c22.toNat:Nat):Int) != 45))) rfl) ?_
    apply Ac
    apply k23
    refine As (t:=((c22.toNat:Nat):Int) != 45) rfl (fun b26=>?_) (fun b26=>?_)
    ·have q26:=Mb b26
     refine w_q rfl rfl fun K27 k27=>?_
     refine l_A (.bool (false)) rfl rfl ?_
     apply Ac
     apply k27
     refine Aq ?_
     refine hret _ _ _ ?_
     refine ⟨rfl,rfl,Eq.trans (b:=(.bool (false))) rfl ?_⟩
     have hbad:Alz s i = false:=by simp only [Alz,hc22,Pk,b4,b7,b9,b12,b19,b24,b25,b26,Bool.true_and,Bool.false_and,Bool.and_true,Bool.and_false,Bool.true_or,Bool.false_or,Bool.or_true,Bool.or_false,Bool.not_true,Bool.not_false]
     have hall:=okAll_f (by omega) hbad
     simp only [Hi,hall,b4,b7,b9,b12,b19,b24,b25,b26,Bool.true_and,Bool.false_and,Bool.and_true,Bool.and_false,Bool.true_or,Bool.false_or,Bool.or_true,Bool.or_false,Bool.not_true,Bool.not_false]
    have q26:=Jh b26
    refine Al ?_
    apply k20
    refine Ag rfl rfl ?_
    refine Aa rfl (Ah (v:=(iV ((i:Int)))) h16_3) ?_
    refine Aa rfl (Br (p:=(i:Int)) (q:=1) rfl rfl (z:=(((i + 1):Nat):Int)) (Bo (by first | rfl | omega | (push_cast; rfl)) (by omega) (by omega))) ?_
    refine l_A (iV ((((i + 1):Nat):Int))) rfl rfl ?_
    apply Ac
    refine ⟨_,?_,((i + 1)),rfl,rfl,rfl,rfl,h16_0,rfl,(by omega),(Ef p16_1 (by simp only [Alz,hc22,Pk,b4,b7,b9,b12,b19,b24,b25,b26,Bool.true_and,Bool.false_and,Bool.and_true,Bool.and_false,Bool.true_or,Bool.false_or,Bool.or_true,Bool.or_false,Bool.not_true,Bool.not_false])),trivial⟩
    omega
   have q25:=of_decide_eq_false b25
   refine l_M (.int .u8 (((c22.toNat:Nat):Int))) (Ar rfl rfl rfl b25) rfl ?_
   refine Aa (Ar rfl rfl rfl b25) (Gk (p:=((c22.toNat:Nat):Int)) (q:=57) rfl rfl) ?_
   refine Aa (Ar rfl rfl rfl rfl) (Bm rfl b25 (v:=(.bool (decide (((c22.toNat:Nat):Int) > 57)))) rfl) ?_
   refine Aa rfl (Bt rfl rfl (v:=(.bool (decide (((c22.toNat:Nat):Int) > 57)))) rfl) ?_
   refine l_M (.bool (decide (((c22.toNat:Nat):Int) > 57))) rfl rfl ?_
   refine Cn (decide (((c22.toNat:Nat):Int) > 57)) (fun b28=>?_) (fun b28=>?_)
   ·have q28:=of_decide_eq_true b28
    refine l_M (.int .u8 (((c22.toNat:Nat):Int))) (Ar rfl rfl rfl b28) rfl ?_
    refine Aa (Ar rfl rfl rfl b28) (Dg (p:=((c22.toNat:Nat):Int)) (q:=45) rfl rfl) ?_
    refine Aa rfl (Bt rfl b28 (v:=(.bool (((c22.toNat:Nat):Int) != 45))) rfl) ?_
    apply Ac
    apply k23
    refine As (t:=((c22.toNat:Nat):Int) != 45) rfl (fun b29=>?_) (fun b29=>?_)
    ·have q29:=Mb b29
     refine w_q rfl rfl fun K30 k30=>?_
     refine l_A (.bool (false)) rfl rfl ?_
     apply Ac
     apply k30
     refine Aq ?_
     refine hret _ _ _ ?_
     refine ⟨rfl,rfl,Eq.trans (b:=(.bool (false))) rfl ?_⟩
     have hbad:Alz s i = false:=by simp only [Alz,hc22,Pk,b4,b7,b9,b12,b19,b24,b25,b28,b29,Bool.true_and,Bool.false_and,Bool.and_true,Bool.and_false,Bool.true_or,Bool.false_or,Bool.or_true,Bool.or_false,Bool.not_true,Bool.not_false]
     have hall:=okAll_f (by omega) hbad
     simp only [Hi,hall,b4,b7,b9,b12,b19,b24,b25,b28,b29,Bool.true_and,Bool.false_and,Bool.and_true,Bool.and_false,Bool.true_or,Bool.false_or,Bool.or_true,Bool.or_false,Bool.not_true,Bool.not_false]
    have q29:=Jh b29
    refine Al ?_
    apply k20
    refine Ag rfl rfl ?_
    refine Aa rfl (Ah (v:=(iV ((i:Int)))) h16_3) ?_
    refine Aa rfl (Br (p:=(i:Int)) (q:=1) rfl rfl (z:=(((i + 1):Nat):Int)) (Bo (by first | rfl | omega | (push_cast; rfl)) (by omega) (by omega))) ?_
    refine l_A (iV ((((i + 1):Nat):Int))) rfl rfl ?_
    apply Ac
    refine ⟨_,?_,((i + 1)),rfl,rfl,rfl,rfl,h16_0,rfl,(by omega),(Ef p16_1 (by simp only [Alz,hc22,Pk,b4,b7,b9,b12,b19,b24,b25,b28,b29,Bool.true_and,Bool.false_and,Bool.and_true,Bool.and_false,Bool.true_or,Bool.false_or,Bool.or_true,Bool.or_false,Bool.not_true,Bool.not_false])),trivial⟩
    omega
   have q28:=of_decide_eq_false b28
   refine Ap (Bl rfl rfl rfl b28) ?_
   refine Ap (Bl rfl rfl rfl b28) ?_
   refine Aa rfl (Bm rfl b28 (v:=(.bool (false))) rfl) ?_
   apply Ac
   apply k23
   refine Cg rfl rfl ?_
   refine Al ?_
   apply k20
   refine Ag rfl rfl ?_
   refine Aa rfl (Ah (v:=(iV ((i:Int)))) h16_3) ?_
   refine Aa rfl (Br (p:=(i:Int)) (q:=1) rfl rfl (z:=(((i + 1):Nat):Int)) (Bo (by first | rfl | omega | (push_cast; rfl)) (by omega) (by omega))) ?_
   refine l_A (iV ((((i + 1):Nat):Int))) rfl rfl ?_
   apply Ac
   refine ⟨_,?_,((i + 1)),rfl,rfl,rfl,rfl,h16_0,rfl,(by omega),(Ef p16_1 (by simp only [Alz,hc22,Pk,b4,b7,b9,b12,b19,b24,b25,b28,Bool.true_and,Bool.false_and,Bool.and_true,Bool.and_false,Bool.true_or,Bool.false_or,Bool.or_true,Bool.or_false,Bool.not_true,Bool.not_false])),trivial⟩
   omega
  have q24:=of_decide_eq_false b24
  refine l_M (.int .u8 (((c22.toNat:Nat):Int))) (Ar rfl rfl rfl b24) rfl ?_
  refine Aa (Ar rfl rfl rfl b24) (Gk (p:=((c22.toNat:Nat):Int)) (q:=122) rfl rfl) ?_
  refine Aa rfl (Bm rfl b24 (v:=(.bool (decide (((c22.toNat:Nat):Int) > 122)))) rfl) ?_
  refine l_M (.bool (decide (((c22.toNat:Nat):Int) > 122))) rfl rfl ?_
  refine Cn (decide (((c22.toNat:Nat):Int) > 122)) (fun b31=>?_) (fun b31=>?_)
  ·have q31:=of_decide_eq_true b31
   refine l_M (.int .u8 (((c22.toNat:Nat):Int))) (Ar rfl rfl rfl b31) rfl ?_
   refine Aa (Ar rfl rfl rfl b31) (Da (p:=((c22.toNat:Nat):Int)) (q:=48) rfl rfl) ?_
   refine l_M (.bool (decide (((c22.toNat:Nat):Int) < 48))) (Ar rfl rfl rfl b31) rfl ?_
   refine Cn (decide (((c22.toNat:Nat):Int) < 48)) (fun b32=>?_) (fun b32=>?_)
   ·have q32:=of_decide_eq_true b32
    refine Ap (Bl rfl rfl rfl b32) ?_
    refine Ap (Bl rfl rfl rfl b32) ?_
    refine Aa (Ar rfl rfl rfl b31) (Bt rfl b32 (v:=(.bool (true))) rfl) ?_
    refine Aa rfl (Bt rfl b31 (v:=(.bool (true))) rfl) ?_
    refine l_M (.bool (true)) rfl rfl ?_
    refine l_M (.int .u8 (((c22.toNat:Nat):Int))) (Ar rfl rfl rfl rfl) rfl ?_
    refine Aa (Ar rfl rfl rfl rfl) (Dg (p:=((c22.toNat:Nat):Int)) (q:=45) rfl rfl) ?_
    refine Aa rfl (Bt rfl rfl (v:=(.bool (((c22.toNat:Nat):Int) != 45))) rfl) ?_
    apply Ac
    apply k23
    refine As (t:=((c22.toNat:Nat):Int) != 45) rfl (fun b33=>?_) (fun b33=>?_)
    ·have q33:=Mb b33
     refine w_q rfl rfl fun K34 k34=>?_
     refine l_A (.bool (false)) rfl rfl ?_
     apply Ac
     apply k34
     refine Aq ?_
     refine hret _ _ _ ?_
     refine ⟨rfl,rfl,Eq.trans (b:=(.bool (false))) rfl ?_⟩
     have hbad:Alz s i = false:=by simp only [Alz,hc22,Pk,b4,b7,b9,b12,b19,b24,b31,b32,b33,Bool.true_and,Bool.false_and,Bool.and_true,Bool.and_false,Bool.true_or,Bool.false_or,Bool.or_true,Bool.or_false,Bool.not_true,Bool.not_false]
     have hall:=okAll_f (by omega) hbad
     simp only [Hi,hall,b4,b7,b9,b12,b19,b24,b31,b32,b33,Bool.true_and,Bool.false_and,Bool.and_true,Bool.and_false,Bool.true_or,Bool.false_or,Bool.or_true,Bool.or_false,Bool.not_true,Bool.not_false]
    have q33:=Jh b33
    refine Al ?_
    apply k20
    refine Ag rfl rfl ?_
    refine Aa rfl (Ah (v:=(iV ((i:Int)))) h16_3) ?_
    refine Aa rfl (Br (p:=(i:Int)) (q:=1) rfl rfl (z:=(((i + 1):Nat):Int)) (Bo (by first | rfl | omega | (push_cast; rfl)) (by omega) (by omega))) ?_
    refine l_A (iV ((((i + 1):Nat):Int))) rfl rfl ?_
    apply Ac
    refine ⟨_,?_,((i + 1)),rfl,rfl,rfl,rfl,h16_0,rfl,(by omega),(Ef p16_1 (by simp only [Alz,hc22,Pk,b4,b7,b9,b12,b19,b24,b31,b32,b33,Bool.true_and,Bool.false_and,Bool.and_true,Bool.and_false,Bool.true_or,Bool.false_or,Bool.or_true,Bool.or_false,Bool.not_true,Bool.not_false])),trivial⟩
    omega
   have q32:=of_decide_eq_false b32
   refine l_M (.int .u8 (((c22.toNat:Nat):Int))) (Ar rfl rfl rfl b32) rfl ?_
   refine Aa (Ar rfl rfl rfl b32) (Gk (p:=((c22.toNat:Nat):Int)) (q:=57) rfl rfl) ?_
   refine Aa (Ar rfl rfl rfl b31) (Bm rfl b32 (v:=(.bool (decide (((c22.toNat:Nat):Int) > 57)))) rfl) ?_
   refine Aa rfl (Bt rfl b31 (v:=(.bool (decide (((c22.toNat:Nat):Int) > 57)))) rfl) ?_
   refine l_M (.bool (decide (((c22.toNat:Nat):Int) > 57))) rfl rfl ?_
   refine Cn (decide (((c22.toNat:Nat):Int) > 57)) (fun b35=>?_) (fun b35=>?_)
   ·have q35:=of_decide_eq_true b35
    refine l_M (.int .u8 (((c22.toNat:Nat):Int))) (Ar rfl rfl rfl b35) rfl ?_
    refine Aa (Ar rfl rfl rfl b35) (Dg (p:=((c22.toNat:Nat):Int)) (q:=45) rfl rfl) ?_
    refine Aa rfl (Bt rfl b35 (v:=(.bool (((c22.toNat:Nat):Int) != 45))) rfl) ?_
    apply Ac
    apply k23
    refine As (t:=((c22.toNat:Nat):Int) != 45) rfl (fun b36=>?_) (fun b36=>?_)
    ·have q36:=Mb b36
     refine w_q rfl rfl fun K37 k37=>?_
     refine l_A (.bool (false)) rfl rfl ?_
     apply Ac
     apply k37
     refine Aq ?_
     refine hret _ _ _ ?_
     refine ⟨rfl,rfl,Eq.trans (b:=(.bool (false))) rfl ?_⟩
     have hbad:Alz s i = false:=by simp only [Alz,hc22,Pk,b4,b7,b9,b12,b19,b24,b31,b32,b35,b36,Bool.true_and,Bool.false_and,Bool.and_true,Bool.and_false,Bool.true_or,Bool.false_or,Bool.or_true,Bool.or_false,Bool.not_true,Bool.not_false]
     have hall:=okAll_f (by omega) hbad
     simp only [Hi,hall,b4,b7,b9,b12,b19,b24,b31,b32,b35,b36,Bool.true_and,Bool.false_and,Bool.and_true,Bool.and_false,Bool.true_or,Bool.false_or,Bool.or_true,Bool.or_false,Bool.not_true,Bool.not_false]
    have q36:=Jh b36
    refine Al ?_
    apply k20
    refine Ag rfl rfl ?_
    refine Aa rfl (Ah (v:=(iV ((i:Int)))) h16_3) ?_
    refine Aa rfl (Br (p:=(i:Int)) (q:=1) rfl rfl (z:=(((i + 1):Nat):Int)) (Bo (by first | rfl | omega | (push_cast; rfl)) (by omega) (by omega))) ?_
    refine l_A (iV ((((i + 1):Nat):Int))) rfl rfl ?_
    apply Ac
    refine ⟨_,?_,((i + 1)),rfl,rfl,rfl,rfl,h16_0,rfl,(by omega),(Ef p16_1 (by simp only [Alz,hc22,Pk,b4,b7,b9,b12,b19,b24,b31,b32,b35,b36,Bool.true_and,Bool.false_and,Bool.and_true,Bool.and_false,Bool.true_or,Bool.false_or,Bool.or_true,Bool.or_false,Bool.not_true,Bool.not_false])),trivial⟩
    omega
   have q35:=of_decide_eq_false b35
   refine Ap (Bl rfl rfl rfl b35) ?_
   refine Ap (Bl rfl rfl rfl b35) ?_
   refine Aa rfl (Bm rfl b35 (v:=(.bool (false))) rfl) ?_
   apply Ac
   apply k23
   refine Cg rfl rfl ?_
   refine Al ?_
   apply k20
   refine Ag rfl rfl ?_
   refine Aa rfl (Ah (v:=(iV ((i:Int)))) h16_3) ?_
   refine Aa rfl (Br (p:=(i:Int)) (q:=1) rfl rfl (z:=(((i + 1):Nat):Int)) (Bo (by first | rfl | omega | (push_cast; rfl)) (by omega) (by omega))) ?_
   refine l_A (iV ((((i + 1):Nat):Int))) rfl rfl ?_
   apply Ac
   refine ⟨_,?_,((i + 1)),rfl,rfl,rfl,rfl,h16_0,rfl,(by omega),(Ef p16_1 (by simp only [Alz,hc22,Pk,b4,b7,b9,b12,b19,b24,b31,b32,b35,Bool.true_and,Bool.false_and,Bool.and_true,Bool.and_false,Bool.true_or,Bool.false_or,Bool.or_true,Bool.or_false,Bool.not_true,Bool.not_false])),trivial⟩
   omega
  have q31:=of_decide_eq_false b31
  refine Ap (Bl rfl rfl rfl b31) ?_
  refine Ap (Bl rfl rfl rfl b31) ?_
  refine Ap (Bl rfl rfl rfl b31) ?_
  refine Ap (Jf rfl rfl rfl) ?_
  refine Ap (Jf rfl rfl rfl) ?_
  refine Ap (Bl rfl rfl rfl b31) ?_
  refine Aa rfl (Bm rfl b31 (v:=(.bool (false))) rfl) ?_
  refine l_M (.bool (false)) rfl rfl ?_
  refine Ap (Bl rfl rfl rfl rfl) ?_
  refine Ap (Bl rfl rfl rfl rfl) ?_
  refine Aa rfl (Bm rfl rfl (v:=(.bool (false))) rfl) ?_
  apply Ac
  apply k23
  refine Cg rfl rfl ?_
  refine Al ?_
  apply k20
  refine Ag rfl rfl ?_
  refine Aa rfl (Ah (v:=(iV ((i:Int)))) h16_3) ?_
  refine Aa rfl (Br (p:=(i:Int)) (q:=1) rfl rfl (z:=(((i + 1):Nat):Int)) (Bo (by first | rfl | omega | (push_cast; rfl)) (by omega) (by omega))) ?_
  refine l_A (iV ((((i + 1):Nat):Int))) rfl rfl ?_
  apply Ac
  refine ⟨_,?_,((i + 1)),rfl,rfl,rfl,rfl,h16_0,rfl,(by omega),(Ef p16_1 (by simp only [Alz,hc22,Pk,b4,b7,b9,b12,b19,b24,b31,Bool.true_and,Bool.false_and,Bool.and_true,Bool.and_false,Bool.true_or,Bool.false_or,Bool.or_true,Bool.or_false,Bool.not_true,Bool.not_false])),trivial⟩
  omega
 have q19:=of_decide_eq_false b19
 refine Bx ?_
 apply k14
 refine w_q rfl rfl fun K38 k38=>?_
 refine l_A (.bool (true)) rfl rfl ?_
 apply Ac
 apply k38
 refine Aq ?_
 refine hret _ _ _ ?_
 refine ⟨rfl,rfl,Eq.trans (b:=(.bool (true))) rfl ?_⟩
 have hall:=okAll_t.2 fun j hj=>p16_1 j (by omega)
 simp only [Hi,Pu,hall,hc8,b4,b7,b9,b12,b19,Bool.true_and,Bool.false_and,Bool.and_true,Bool.and_false,Bool.true_or,Bool.false_or,Bool.or_true,Bool.or_false,Bool.not_true,Bool.not_false]
set_option maxRecDepth 100000 in
theorem c_Find {mn:Bool} {X:Frame→List Frame→Ro→Own→Cy→Prop} {ρ:Ro} {σ:Own} {l:List ByteArray} {vl:Value} {s:ByteArray} (rl:Val ρ vl l):CallsH (CX mn X) 114 #[vl,(.string (s))] ρ σ (fun w ρ' σ'=>ρ' = ρ∧σ' = σ∧w = (iV (Ajt l s))):=by
 refine Bh (n:=19) (args:=[vl,(.string (s))]) [4] Tryd.func114 rfl rfl rfl rfl fun Q hret hnor=>?_
 refine w_q rfl rfl fun K1 k1=>?_
 refine l_A (iV (0)) rfl rfl ?_
 apply Ac
 apply k1
 refine Ai fun K2 k2=>?_
 refine w_q rfl rfl fun K3 k3=>?_
 refine l_A (iV (0)) rfl rfl ?_
 apply Ac
 apply k3
 refine Ao ?_
 refine Cc (fun mm ee dd ρ' σ'=>∃ (i:Nat),(l.length - i) = mm∧[] = dd∧ρ = ρ'∧σ = σ'∧ee 0 = vl∧ee 1 = (.string (s))∧ee 5 = (iV ((i:Int)))∧(i ≤ l.length)∧(∀ j,j < i→Xp l s j = false)∧True) (m:=_) ⟨0,rfl,rfl,rfl,rfl,rfl,rfl,rfl,(Nat.zero_le _),(fun j h=>absurd h (Nat.not_lt_zero _)),trivial⟩ ?_
 rintro m4 e4 _ _ _ ⟨i,rfl,rfl,rfl,rfl,h4_0,h4_1,h4_5,p4_0,p4_1,_⟩
 refine Ai fun K5 k5=>?_
 refine w_q rfl rfl fun K6 k6=>?_
 refine Aa rfl (Ah (v:=(iV ((i:Int)))) h4_5) ?_
 refine Aa rfl (Ah (v:=vl) h4_0) ?_
 have g7:=Val.len rl
 refine Aa rfl (Ce (el:=9) Tryd.underlying22 rfl rl) ?_
 refine Aa rfl (Da (p:=(i:Int)) (q:=((l.length:Nat):Int)) rfl rfl) ?_
 apply Ac
 apply k6
 refine As (t:=decide ((i:Int) < ((l.length:Nat):Int))) rfl (fun b8=>?_) (fun b8=>?_)
 ·have q8:=of_decide_eq_true b8
  refine Al ?_
  apply k5
  refine Ai fun K9 k9=>?_
  refine Ao ?_
  refine w_q rfl rfl fun K10 k10=>?_
  refine Aa rfl (Ah (v:=vl) h4_0) ?_
  refine Aa rfl (Ah (v:=(iV ((i:Int)))) h4_5) ?_
  obtain ⟨a12,ha12⟩:=Ed (xs:=l) (i:=i) (by omega)
  refine Ak rfl (Ci i Tryd.underlying22 ty9 rfl rl (q:=(i:Int)) rfl rfl ha12) fun v11 r11=>?_
  have g13:=At.slen r11
  refine Aa rfl (Oz ty9 rfl r11) ?_
  refine Aa rfl (Ah (v:=(.string (s))) h4_1) ?_
  refine Aa rfl (y_eqs (p:=a12) (q:=s) rfl rfl) ?_
  apply Ac
  apply k10
  refine As (t:=(a12).toList == (s).toList) rfl (fun b14=>?_) (fun b14=>?_)
  ·have q14:=Jo b14
   refine w_q rfl rfl fun K15 k15=>?_
   refine Aa rfl (Ah (v:=(iV ((i:Int)))) h4_5) ?_
   refine l_A (iV ((i:Int))) rfl rfl ?_
   apply Ac
   apply k15
   refine Aq ?_
   refine hret _ _ _ ?_
   refine ⟨rfl,rfl,Eq.trans (b:=(iV ((i:Int)))) rfl ?_⟩
   have hi:=Fg (n:=l.length) p4_1 (by omega) (show Xp l s i = true by simp only [Xp,ha12,b8,b14])
   simp only [Ajt,hi]
  have q14:=La b14
  refine Al ?_
  apply k9
  refine Ag rfl rfl ?_
  refine Aa rfl (Ah (v:=(iV ((i:Int)))) h4_5) ?_
  refine Aa rfl (Br (p:=(i:Int)) (q:=1) rfl rfl (z:=(((i + 1):Nat):Int)) (Bo (by first | rfl | omega | (push_cast; rfl)) (by omega) (by omega))) ?_
  refine l_A (iV ((((i + 1):Nat):Int))) rfl rfl ?_
  apply Ac
  refine ⟨_,?_,((i + 1)),rfl,rfl,rfl,rfl,h4_0,h4_1,rfl,(by omega),(Ef p4_1 (by simp only [Xp,ha12,b8,b14])),trivial⟩
  omega
 have q8:=of_decide_eq_false b8
 refine Bx ?_
 apply k2
 refine w_q rfl rfl fun K16 k16=>?_
 refine l_A (iV ((-1))) rfl rfl ?_
 apply Ac
 apply k16
 refine Aq ?_
 refine hret _ _ _ ?_
 refine ⟨rfl,rfl,Eq.trans (b:=(iV ((-1)))) rfl ?_⟩
 have hn:=Ep (n:=l.length) fun j hj=>p4_1 j (by omega)
 simp only [Ajt,hn]
set_option maxRecDepth 100000 in
theorem c_names {mn:Bool} {X:Frame→List Frame→Ro→Own→Cy→Prop} {ρ:Ro} {σ:Own} {l:List ByteArray} {vl:Value} {most:Int} (rl:Val ρ vl l):CallsH (CX mn X) 77 #[vl,(iV (most))] ρ σ (fun w ρ' σ'=>ρ' = ρ∧σ' = σ∧w = (iV (Dd l most))):=by
 refine Bh (n:=31) (args:=[vl,(iV (most))]) [4] Tryd.func77 rfl rfl rfl rfl fun Q hret hnor=>?_
 refine w_q rfl rfl fun K1 k1=>?_
 refine l_A (iV (0)) rfl rfl ?_
 apply Ac
 apply k1
 refine Ai fun K2 k2=>?_
 refine w_q rfl rfl fun K3 k3=>?_
 refine l_M vl rfl rfl ?_
 have g4:=Val.len rl
 refine Aa rfl (Ce (el:=9) Tryd.underlying22 rfl rl) ?_
 refine l_M (iV (most)) rfl rfl ?_
 refine Aa rfl (Gk (p:=((l.length:Nat):Int)) (q:=most) rfl rfl) ?_
 apply Ac
 apply k3
 refine As (t:=decide (((l.length:Nat):Int) > most)) rfl (fun b5=>?_) (fun b5=>?_)
 ·have q5:=of_decide_eq_true b5
  refine w_q rfl rfl fun K6 k6=>?_
  refine l_A (iV (2)) rfl rfl ?_
  apply Ac
  apply k6
  refine Aq ?_
  refine hret _ _ _ ?_
  refine ⟨rfl,rfl,Eq.trans (b:=(iV (2))) rfl ?_⟩
  rw [Dd,if_pos (by omega)]
 have q5:=of_decide_eq_false b5
 refine Al ?_
 apply k2
 refine Ai fun K7 k7=>?_
 refine w_q rfl rfl fun K8 k8=>?_
 refine l_A (iV (0)) rfl rfl ?_
 apply Ac
 apply k8
 refine Ao ?_
 refine Cc (fun mm ee dd ρ' σ'=>∃ (i:Nat),(l.length - i) = mm∧[] = dd∧ρ = ρ'∧σ = σ'∧ee 0 = vl∧ee 5 = (iV ((i:Int)))∧(i ≤ l.length)∧(∀ j,j < i→Nh l j = 0)∧True) (m:=_) ⟨0,rfl,rfl,rfl,rfl,rfl,rfl,(Nat.zero_le _),(fun j h=>absurd h (Nat.not_lt_zero _)),trivial⟩ ?_
 rintro m9 e9 _ _ _ ⟨i,rfl,rfl,rfl,rfl,h9_0,h9_5,p9_0,p9_1,_⟩
 refine Ai fun K10 k10=>?_
 refine w_q rfl rfl fun K11 k11=>?_
 refine Aa rfl (Ah (v:=(iV ((i:Int)))) h9_5) ?_
 refine Aa rfl (Ah (v:=vl) h9_0) ?_
 have g12:=Val.len rl
 refine Aa rfl (Ce (el:=9) Tryd.underlying22 rfl rl) ?_
 refine Aa rfl (Da (p:=(i:Int)) (q:=((l.length:Nat):Int)) rfl rfl) ?_
 apply Ac
 apply k11
 refine As (t:=decide ((i:Int) < ((l.length:Nat):Int))) rfl (fun b13=>?_) (fun b13=>?_)
 ·have q13:=of_decide_eq_true b13
  refine Al ?_
  apply k10
  refine Ai fun K14 k14=>?_
  refine Ao ?_
  refine Ai fun K15 k15=>?_
  refine w_q rfl rfl fun K16 k16=>?_
  refine Aa rfl (Ah (v:=vl) h9_0) ?_
  refine Aa rfl (Ah (v:=(iV ((i:Int)))) h9_5) ?_
  obtain ⟨a18,ha18⟩:=Ed (xs:=l) (i:=i) (by omega)
  refine Ak rfl (Ci i Tryd.underlying22 ty9 rfl rl (q:=(i:Int)) rfl rfl ha18) fun v17 r17=>?_
  have g19:=At.slen r17
  refine Aa rfl (Oz ty9 rfl r17) ?_
  refine Ae rfl (Bn (vs:=[(.string (a18))]) (v:=(.bool (Hi a18))) (c_Name) Tryd.func78 rfl rfl ⟨rfl,trivial⟩ ?_)
  refine Aa rfl (Ix (k:=Hi a18) rfl) ?_
  apply Ac
  apply k16
  refine As (t:=!(Hi a18)) rfl (fun b20=>?_) (fun b20=>?_)
  ·have b21:=not_eq_t b20
   refine w_q rfl rfl fun K22 k22=>?_
   refine l_A (iV (4)) rfl rfl ?_
   apply Ac
   apply k22
   refine Aq ?_
   refine hret _ _ _ ?_
   refine ⟨rfl,rfl,Eq.trans (b:=(iV (4))) rfl ?_⟩
   have hf:Nh l i = 4:=by simp only [Nh,ha18,b5,b13,b20,b21]; first | rfl | omega | (simp; done) | (simp; omega)
   rw [Dd,if_neg (by omega),Db p9_1 (by omega) hf (by omega)]
  have b23:=not_eq_f b20
  refine Al ?_
  apply k15
  refine Ai fun K24 k24=>?_
  refine Dc [0,1,2,3,4,5,6,7,8] (by kernel_rfl) rfl rfl ?_
  refine Be (i:=0) Aov rfl (by kernel_rfl) rfl Ary rfl (Ah (v:=vl) h9_0) ?_
  refine Be (i:=1) Aof rfl (by kernel_rfl) rfl Ary rfl (Ah (v:=(iV ((i:Int)))) h9_5) ?_
  refine Cd (i:=2) Apd rfl (by kernel_rfl) rfl Ary rfl (y_slice_hi i Tryd.underlying22 ty9 rfl rl (q:=(i:Int)) rfl rfl (by omega)) fun v25 r25=>?_
  refine Be (i:=3) Anf rfl (by kernel_rfl) rfl Ary rfl (Ah (v:=vl) h9_0) ?_
  refine Bg (i:=4) Aon rfl (by kernel_rfl) rfl Ary rfl (Ah (v:=(iV ((i:Int)))) h9_5) ?_
  refine Hl (i:=5) Aob rfl (by kernel_rfl) rfl Ary rfl (Ci i Tryd.underlying22 ty9 rfl rl (q:=(i:Int)) rfl rfl ha18) fun v26 r26=>?_
  have g27:=At.slen r26
  refine Bg (i:=6) Aow rfl (by kernel_rfl) rfl Ary rfl (Oz ty9 rfl r26) ?_
  refine Dj (i:=7) Anz rfl (by kernel_rfl) rfl rfl (Bn (vs:=[v25,(.string (a18))]) (v:=(iV (Ajt ((l.take i)) a18))) (c_Find r25) Tryd.func114 rfl rfl ⟨rfl,rfl,trivial⟩ ⟨Ary,?_⟩)
  refine Bg (i:=8) Anb rfl (by kernel_rfl) rfl Ary rfl (Uv (p:=Ajt ((l.take i)) a18) (q:=0) rfl rfl) ?_
  refine Ec rfl ?_
  apply k24
  refine As (t:=decide (Ajt ((l.take i)) a18 ≥ 0)) rfl (fun b28=>?_) (fun b28=>?_)
  ·have q28:=of_decide_eq_true b28
   refine w_q rfl rfl fun K29 k29=>?_
   refine l_A (iV (5)) rfl rfl ?_
   apply Ac
   apply k29
   refine Aq ?_
   refine hret _ _ _ ?_
   refine ⟨rfl,rfl,Eq.trans (b:=(iV (5))) rfl ?_⟩
   have hf:Nh l i = 5:=by simp only [Nh,ha18,b5,b13,b20,b23,b28]; first | rfl | omega | (simp; done) | (simp; omega)
   rw [Dd,if_neg (by omega),Db p9_1 (by omega) hf (by omega)]
  have q28:=of_decide_eq_false b28
  refine Al ?_
  apply k14
  refine Ag rfl rfl ?_
  refine Aa rfl (Ah (v:=(iV ((i:Int)))) h9_5) ?_
  refine Aa rfl (Br (p:=(i:Int)) (q:=1) rfl rfl (z:=(((i + 1):Nat):Int)) (Bo (by first | rfl | omega | (push_cast; rfl)) (by omega) (by omega))) ?_
  refine l_A (iV ((((i + 1):Nat):Int))) rfl rfl ?_
  apply Ac
  refine ⟨_,?_,((i + 1)),rfl,rfl,rfl,rfl,h9_0,rfl,(by omega),(Ef p9_1 (by simp only [Nh,ha18,b5,b13,b20,b23,b28]; first | rfl | omega | (simp; done) | (simp; omega))),trivial⟩
  omega
 have q13:=of_decide_eq_false b13
 refine Bx ?_
 apply k7
 refine w_q rfl rfl fun K30 k30=>?_
 refine l_A (iV (0)) rfl rfl ?_
 apply Ac
 apply k30
 refine Aq ?_
 refine hret _ _ _ ?_
 refine ⟨rfl,rfl,Eq.trans (b:=(iV (0))) rfl ?_⟩
 rw [Dd,if_neg (by omega),Fb fun j hj=>p9_1 j (by omega)]
end Go.Proofs.YtoefdnbaklajeaaDoor

namespace Go.Proofs.YtoefdnbaklajeaaDoor
open Go
set_option maxRecDepth 100000 in
theorem c_checkSpans {mn:Bool} {X:Frame→List Frame→Ro→Own→Cy→Prop} {ρ:Ro} {σ:Own} {l:List Span} {vl:Value} {many:Int} (rl:Val ρ vl l):CallsH (CX mn X) 81 #[vl,(iV (many))] ρ σ (fun w ρ' σ'=>ρ' = ρ∧σ' = σ∧w = (iV (Fl l many))):=by
 refine Bh (n:=22) (args:=[vl,(iV (many))]) [4] Tryd.func81 rfl rfl rfl rfl fun Q hret hnor=>?_
 refine w_q rfl rfl fun K1 k1=>?_
 refine l_A (iV (0)) rfl rfl ?_
 apply Ac
 apply k1
 refine Ai fun K2 k2=>?_
 refine w_q rfl rfl fun K3 k3=>?_
 refine l_M vl rfl rfl ?_
 have g4:=Val.len rl
 refine Aa rfl (Ce (el:=65) Tryd.underlying27 rfl rl) ?_
 refine l_M (iV (many)) rfl rfl ?_
 refine Aa rfl (Dg (p:=((l.length:Nat):Int)) (q:=many) rfl rfl) ?_
 apply Ac
 apply k3
 refine As (t:=((l.length:Nat):Int) != many) rfl (fun b5=>?_) (fun b5=>?_)
 ·have q5:=Mb b5
  refine w_q rfl rfl fun K6 k6=>?_
  refine l_A (iV (2)) rfl rfl ?_
  apply Ac
  apply k6
  refine Aq ?_
  refine hret _ _ _ ?_
  refine ⟨rfl,rfl,Eq.trans (b:=(iV (2))) rfl ?_⟩
  rw [Fl,if_neg (by omega)]
 have q5:=Jh b5
 refine Al ?_
 apply k2
 refine Ai fun K7 k7=>?_
 refine w_q rfl rfl fun K8 k8=>?_
 refine l_A (iV (0)) rfl rfl ?_
 apply Ac
 apply k8
 refine Ao ?_
 refine Cc (fun mm ee dd ρ' σ'=>∃ (i:Nat),(l.length - i) = mm∧[] = dd∧ρ = ρ'∧σ = σ'∧ee 0 = vl∧ee 5 = (iV ((i:Int)))∧(i ≤ l.length)∧(∀ j,j < i→Nj l j = 0)∧True) (m:=_) ⟨0,rfl,rfl,rfl,rfl,rfl,rfl,(Nat.zero_le _),(fun j h=>absurd h (Nat.not_lt_zero _)),trivial⟩ ?_
 rintro m9 e9 _ _ _ ⟨i,rfl,rfl,rfl,rfl,h9_0,h9_5,p9_0,p9_1,_⟩
 refine Ai fun K10 k10=>?_
 refine w_q rfl rfl fun K11 k11=>?_
 refine Aa rfl (Ah (v:=(iV ((i:Int)))) h9_5) ?_
 refine Aa rfl (Ah (v:=vl) h9_0) ?_
 have g12:=Val.len rl
 refine Aa rfl (Ce (el:=65) Tryd.underlying27 rfl rl) ?_
 refine Aa rfl (Da (p:=(i:Int)) (q:=((l.length:Nat):Int)) rfl rfl) ?_
 apply Ac
 apply k11
 refine As (t:=decide ((i:Int) < ((l.length:Nat):Int))) rfl (fun b13=>?_) (fun b13=>?_)
 ·have q13:=of_decide_eq_true b13
  refine Al ?_
  apply k10
  refine Ai fun K14 k14=>?_
  refine Ao ?_
  refine w_q rfl rfl fun K15 k15=>?_
  refine Aa rfl (Ah (v:=vl) h9_0) ?_
  refine Aa rfl (Ah (v:=(iV ((i:Int)))) h9_5) ?_
  obtain ⟨a17,ha17⟩:=Ed (xs:=l) (i:=i) (by omega)
  refine Ak rfl (Ci i Tryd.underlying27 Mx rfl rl (q:=(i:Int)) rfl rfl ha17) fun v16 r16=>?_
  refine Ak rfl (Ax Mx rfl r16) fun v18 r18=>?_
  refine Ae rfl (Bn (vs:=[v18,(iV (0)),(iV (1000))]) (v:=(.bool (Eg a17 0 1000))) (c_Inside r18) Tryd.func80 rfl rfl ⟨rfl,rfl,rfl,trivial⟩ ?_)
  refine Aa rfl (Ix (k:=Eg a17 0 1000) rfl) ?_
  apply Ac
  apply k15
  refine As (t:=!(Eg a17 0 1000)) rfl (fun b19=>?_) (fun b19=>?_)
  ·have b20:=not_eq_t b19
   refine w_q rfl rfl fun K21 k21=>?_
   refine l_A (iV (1)) rfl rfl ?_
   apply Ac
   apply k21
   refine Aq ?_
   refine hret _ _ _ ?_
   refine ⟨rfl,rfl,Eq.trans (b:=(iV (1))) rfl ?_⟩
   have hf:Nj l i = 1:=by simp [Nj,ha17,b5,b13,b19,b20,q5,q13]
   rw [Fl,if_pos (by omega),Db p9_1 (by omega) hf (by omega)]
  have b22:=not_eq_f b19
  refine Al ?_
  apply k14
  refine Ag rfl rfl ?_
  refine Aa rfl (Ah (v:=(iV ((i:Int)))) h9_5) ?_
  refine Aa rfl (Br (p:=(i:Int)) (q:=1) rfl rfl (z:=(((i + 1):Nat):Int)) (Bo (by first | rfl | omega | (push_cast; rfl)) (by omega) (by omega))) ?_
  refine l_A (iV ((((i + 1):Nat):Int))) rfl rfl ?_
  apply Ac
  refine ⟨_,?_,((i + 1)),rfl,rfl,rfl,rfl,h9_0,rfl,(by omega),(Ef p9_1 (by simp [Nj,ha17,b5,b13,b19,b22,q5,q13])),trivial⟩
  omega
 have q13:=of_decide_eq_false b13
 refine Bx ?_
 apply k7
 refine w_q rfl rfl fun K23 k23=>?_
 refine l_A (iV (0)) rfl rfl ?_
 apply Ac
 apply k23
 refine Aq ?_
 refine hret _ _ _ ?_
 refine ⟨rfl,rfl,Eq.trans (b:=(iV (0))) rfl ?_⟩
 rw [Fl,if_pos (by omega),Fb fun j hj=>p9_1 j (by omega)]
set_option maxRecDepth 100000 in
theorem c_CheckMarket {mn:Bool} {X:Frame→List Frame→Ro→Own→Cy→Prop} {ρ:Ro} {σ:Own} {m:Market} {vm:Value} (rm:Val ρ vm m):CallsH (CX mn X) 28 #[vm] ρ σ (fun w ρ' σ'=>ρ' = ρ∧σ' = σ∧w = (iV (Ch m))):=by
 refine Bh (n:=137) (args:=[vm]) [2] Tryd.func28 rfl rfl rfl rfl fun Q hret hnor=>?_
 refine w_q rfl rfl fun K1 k1=>?_
 refine Ae rfl (Eb (v:=vm) rfl fun k2=>?_)
 refine Bb (a:=m) rm fun ρ2 l2 r2=>?_
 replace rm:=Asa l2 rm
 refine l_A (iV (0)) rfl rfl ?_
 apply Ac
 apply k1
 refine Ai fun K3 k3=>?_
 refine w_q rfl rfl fun K4 k4=>?_
 refine Ak rfl (Ay Market.f_houses Tryd.underlying26 rfl rfl Hu (by decide) rfl r2) fun v5 r5=>?_
 refine Ak rfl (Ax Hu rfl r5) fun v6 r6=>?_
 refine Ae rfl (Bn (vs:=[v6,(iV (5))]) (v:=(iV (Dd m.houses 5))) (c_names r6) Tryd.func77 rfl rfl ⟨rfl,rfl,trivial⟩ ?_)
 refine l_A (iV (Dd m.houses 5)) rfl rfl ?_
 apply Ac
 apply k4
 refine w_q rfl rfl fun K7 k7=>?_
 refine l_M (iV (Dd m.houses 5)) rfl rfl ?_
 refine Aa rfl (Dg (p:=Dd m.houses 5) (q:=0) rfl rfl) ?_
 apply Ac
 apply k7
 refine As (t:=Dd m.houses 5 != 0) rfl (fun b8=>?_) (fun b8=>?_)
 ·have q8:=Mb b8
  refine w_q rfl rfl fun K9 k9=>?_
  refine l_M (iV (Dd m.houses 5)) rfl rfl ?_
  refine l_A (iV (Dd m.houses 5)) rfl rfl ?_
  apply Ac
  apply k9
  refine Aj (Arw l2) ?_
  refine Aq ?_
  refine hret _ _ _ ?_
  refine ⟨rfl,rfl,Eq.trans (b:=(iV (Dd m.houses 5))) rfl ?_⟩
  rw [Ch,Rx q8]
 have q8:=Jh b8
 refine Al ?_
 apply k3
 refine Ai fun K10 k10=>?_
 refine w_q rfl rfl fun K11 k11=>?_
 refine Ak rfl (Ay Market.f_marks Tryd.underlying26 rfl rfl Hu (by decide) rfl r2) fun v12 r12=>?_
 refine Ak rfl (Ax Hu rfl r12) fun v13 r13=>?_
 refine Ae rfl (Bn (vs:=[v13,(iV (4))]) (v:=(iV (Dd m.marks 4))) (c_names r13) Tryd.func77 rfl rfl ⟨rfl,rfl,trivial⟩ ?_)
 refine l_A (iV (Dd m.marks 4)) rfl rfl ?_
 apply Ac
 apply k11
 refine w_q rfl rfl fun K14 k14=>?_
 refine l_M (iV (Dd m.marks 4)) rfl rfl ?_
 refine Aa rfl (Dg (p:=Dd m.marks 4) (q:=0) rfl rfl) ?_
 apply Ac
 apply k14
 refine As (t:=Dd m.marks 4 != 0) rfl (fun b15=>?_) (fun b15=>?_)
 ·have q15:=Mb b15
  refine w_q rfl rfl fun K16 k16=>?_
  refine l_M (iV (Dd m.marks 4)) rfl rfl ?_
  refine l_A (iV (Dd m.marks 4)) rfl rfl ?_
  apply Ac
  apply k16
  refine Aj (Arw l2) ?_
  refine Aq ?_
  refine hret _ _ _ ?_
  refine ⟨rfl,rfl,Eq.trans (b:=(iV (Dd m.marks 4))) rfl ?_⟩
  rw [Ch,Gt q8,Rx q15]
 have q15:=Jh b15
 refine Al ?_
 apply k10
 refine Ai fun K17 k17=>?_
 refine w_q rfl rfl fun K18 k18=>?_
 refine Ak rfl (Ay Market.f_fields Tryd.underlying26 rfl rfl Se (by decide) rfl r2) fun v19 r19=>?_
 refine Ak rfl (Ax Se rfl r19) fun v20 r20=>?_
 have g21:=Val.len r20
 refine Aa rfl (Ce (el:=67) Tryd.underlying23 rfl r20) ?_
 refine Aa rfl (Gk (p:=((m.fields.length:Nat):Int)) (q:=6) rfl rfl) ?_
 apply Ac
 apply k18
 refine As (t:=decide (((m.fields.length:Nat):Int) > 6)) rfl (fun b22=>?_) (fun b22=>?_)
 ·have q22:=of_decide_eq_true b22
  refine w_q rfl rfl fun K23 k23=>?_
  refine l_A (iV (2)) rfl rfl ?_
  apply Ac
  apply k23
  refine Aj (Arw l2) ?_
  refine Aq ?_
  refine hret _ _ _ ?_
  refine ⟨rfl,rfl,Eq.trans (b:=(iV (2))) rfl ?_⟩
  rw [Ch,Gt q8,Gt q15,Ew,if_pos q22,Rx (by omega)]
 have q22:=of_decide_eq_false b22
 refine Al ?_
 apply k17
 refine Ai fun K24 k24=>?_
 refine w_q rfl rfl fun K25 k25=>?_
 refine l_A (iV (0)) rfl rfl ?_
 apply Ac
 apply k25
 refine Ao ?_
 refine Cc (fun mm ee dd ρ' σ'=>∃ (i:Nat),(m.fields.length - i) = mm∧[] = dd∧ρ2 = ρ'∧σ = σ'∧ee 1 = (.pointer (some ⟨k2,0,none⟩))∧ee 5 = (iV ((i:Int)))∧(i ≤ m.fields.length)∧(∀ j,j < i→fieldAt m j = 0)∧True) (m:=_) ⟨0,rfl,rfl,rfl,rfl,rfl,rfl,(Nat.zero_le _),(fun j h=>absurd h (Nat.not_lt_zero _)),trivial⟩ ?_
 rintro m26 e26 _ _ _ ⟨i,rfl,rfl,rfl,rfl,h26_1,h26_5,p26_0,p26_1,_⟩
 refine Ai fun K27 k27=>?_
 refine w_q rfl rfl fun K28 k28=>?_
 refine Aa rfl (Ah (v:=(iV ((i:Int)))) h26_5) ?_
 refine Ak rfl (Ay Market.f_fields Tryd.underlying26 rfl rfl Se (by decide) h26_1 r2) fun v29 r29=>?_
 refine Ak rfl (Ax Se rfl r29) fun v30 r30=>?_
 have g31:=Val.len r30
 refine Aa rfl (Ce (el:=67) Tryd.underlying23 rfl r30) ?_
 refine Aa rfl (Da (p:=(i:Int)) (q:=((m.fields.length:Nat):Int)) rfl rfl) ?_
 apply Ac
 apply k28
 refine As (t:=decide ((i:Int) < ((m.fields.length:Nat):Int))) rfl (fun b32=>?_) (fun b32=>?_)
 ·have q32:=of_decide_eq_true b32
  refine Al ?_
  apply k27
  refine Ai fun K33 k33=>?_
  refine Ao ?_
  refine w_q rfl rfl fun K34 k34=>?_
  refine Ak rfl (Ay Market.f_fields Tryd.underlying26 rfl rfl Se (by decide) h26_1 r2) fun v35 r35=>?_
  refine Ak rfl (Ax Se rfl r35) fun v36 r36=>?_
  refine Aa rfl (Ah (v:=(iV ((i:Int)))) h26_5) ?_
  obtain ⟨a38,ha38⟩:=Ed (xs:=m.fields) (i:=i) (by omega)
  refine Ak rfl (Ci i Tryd.underlying23 Ln rfl r36 (q:=(i:Int)) rfl rfl ha38) fun v37 r37=>?_
  refine Ak rfl (Ax Ln rfl r37) fun v39 r39=>?_
  refine Ae rfl (Ct Xg fun k40=>?_)
  refine Cx rfl (Du (v:=v39) (a:=a38) (c:=Zu) Ln rfl rfl r39 rfl ?_)
  refine Bb (a:=a38) r39 fun ρ41 l41 r41=>?_
  replace r2:=Arv l41 r2
  replace r35:=Arv l41 r35
  replace r36:=Asa l41 r36
  replace r37:=Arv l41 r37
  replace r39:=Asa l41 r39
  apply Ac
  apply k34
  refine Ai fun K42 k42=>?_
  refine w_q rfl rfl fun K43 k43=>?_
  refine Ak rfl (Ay FField.f_name Tryd.underlying67 rfl rfl ty9 (by decide) rfl r41) fun v44 r44=>?_
  have g45:=At.slen r44
  refine Aa rfl (Oz ty9 rfl r44) ?_
  refine Ae rfl (Bn (vs:=[(.string (a38.name))]) (v:=(.bool (Hi a38.name))) (c_Name) Tryd.func78 rfl rfl ⟨rfl,trivial⟩ ?_)
  refine Aa rfl (Ix (k:=Hi a38.name) rfl) ?_
  apply Ac
  apply k43
  refine As (t:=!(Hi a38.name)) rfl (fun b46=>?_) (fun b46=>?_)
  ·have b47:=not_eq_t b46
   refine w_q rfl rfl fun K48 k48=>?_
   refine l_A (iV (4)) rfl rfl ?_
   apply Ac
   apply k48
   refine Aj (Arw (Arz l2 l41)) ?_
   refine Aq ?_
   refine hret _ _ _ ?_
   refine ⟨rfl,rfl,Eq.trans (b:=(iV (4))) rfl ?_⟩
   have hf:fieldAt m i = 4:=by simp [fieldAt,ha38,b8,b15,b22,b32,b46,b47,q8,q15,q22,q32]
   have hF:Ew m = 4:=by rw [Ew,if_neg (by omega),Db p26_1 (by omega) hf (by omega)]
   rw [Ch,Gt q8,Gt q15,hF,Rx (by omega)]
  have b49:=not_eq_f b46
  refine Al ?_
  apply k42
  refine Ai fun K50 k50=>?_
  refine w_q rfl rfl fun K51 k51=>?_
  refine l_A (iV (0)) rfl rfl ?_
  apply Ac
  apply k51
  refine Ao ?_
  refine Cc (fun mm ee dd ρ' σ'=>∃ (k:Nat),(i - k) = mm∧[] = dd∧ρ41 = ρ'∧σ = σ'∧ee 1 = (.pointer (some ⟨k2,0,none⟩))∧ee 5 = (iV ((i:Int)))∧ee 6 = (.pointer (some ⟨k40,0,none⟩))∧ee 7 = (iV ((k:Int)))∧(k ≤ i)∧(∀ j,j < k→Mq m a38.name j = false)∧True) (m:=_) ⟨0,rfl,rfl,rfl,rfl,h26_1,h26_5,rfl,rfl,(Nat.zero_le _),(fun j h=>absurd h (Nat.not_lt_zero _)),trivial⟩ ?_
  rintro m52 e52 _ _ _ ⟨k,rfl,rfl,rfl,rfl,h52_1,h52_5,h52_6,h52_7,p52_0,p52_1,_⟩
  refine Ai fun K53 k53=>?_
  refine w_q rfl rfl fun K54 k54=>?_
  refine Aa rfl (Ah (v:=(iV ((k:Int)))) h52_7) ?_
  refine Aa rfl (Ah (v:=(iV ((i:Int)))) h52_5) ?_
  refine Aa rfl (Da (p:=(k:Int)) (q:=(i:Int)) rfl rfl) ?_
  apply Ac
  apply k54
  refine As (t:=decide ((k:Int) < (i:Int))) rfl (fun b55=>?_) (fun b55=>?_)
  ·have q55:=of_decide_eq_true b55
   refine Al ?_
   apply k53
   refine Ai fun K56 k56=>?_
   refine Ao ?_
   refine Ai fun K57 k57=>?_
   refine Dc [0,1,2,3,4,5,6,7,8] (by kernel_rfl) rfl rfl ?_
   refine Cd (i:=0) Aov rfl (by kernel_rfl) rfl Ary rfl (Ay Market.f_fields Tryd.underlying26 rfl rfl Se (by decide) h52_1 r2) fun v58 r58=>?_
   refine Cd (i:=1) Aof rfl (by kernel_rfl) rfl Ary rfl (Ax Se rfl r58) fun v59 r59=>?_
   refine Be (i:=2) Apd rfl (by kernel_rfl) rfl Ary rfl (Ah (v:=(iV ((k:Int)))) h52_7) ?_
   obtain ⟨a61,ha61⟩:=Ed (xs:=m.fields) (i:=k) (by omega)
   refine Cd (i:=3) Anf rfl (by kernel_rfl) rfl Ary rfl (Ci k Tryd.underlying23 Ln rfl r59 (q:=(k:Int)) rfl rfl ha61) fun v60 r60=>?_
   refine Cd (i:=4) Aon rfl (by kernel_rfl) rfl Ary rfl (Ay FField.f_name Tryd.underlying67 rfl rfl ty9 (by decide) rfl r60) fun v62 r62=>?_
   have g63:=At.slen r62
   refine Be (i:=5) Aob rfl (by kernel_rfl) rfl Ary rfl (Oz ty9 rfl r62) ?_
   refine Hl (i:=6) Aow rfl (by kernel_rfl) rfl Ary rfl (Ay FField.f_name Tryd.underlying67 rfl rfl ty9 (by decide) h52_6 r41) fun v64 r64=>?_
   have g65:=At.slen r64
   refine Bg (i:=7) Anz rfl (by kernel_rfl) rfl Ary rfl (Oz ty9 rfl r64) ?_
   refine Bg (i:=8) Anb rfl (by kernel_rfl) rfl Ary rfl (y_eqs (p:=a61.name) (q:=a38.name) rfl rfl) ?_
   refine Ec rfl ?_
   apply k57
   refine As (t:=(a61.name).toList == (a38.name).toList) rfl (fun b66=>?_) (fun b66=>?_)
   ·have q66:=Jo b66
    refine w_q rfl rfl fun K67 k67=>?_
    refine l_A (iV (5)) rfl rfl ?_
    apply Ac
    apply k67
    refine Aj (Arw (Arz l2 l41)) ?_
    refine Aq ?_
    refine hret _ _ _ ?_
    refine ⟨rfl,rfl,Eq.trans (b:=(iV (5))) rfl ?_⟩
    have hi:Cl i (Mq m a38.name) = some k:=Fg p52_1 (by omega) (by simp [Mq,ha61,b8,b15,b22,b32,b46,b49,b55,b66,q8,q15,q22,q32,q55,q66])
    have hf:fieldAt m i = 5:=by simp [fieldAt,ha38,hi,b8,b15,b22,b32,b46,b49,b55,b66,q8,q15,q22,q32,q55,q66]
    have hF:Ew m = 5:=by rw [Ew,if_neg (by omega),Db p26_1 (by omega) hf (by omega)]
    rw [Ch,Gt q8,Gt q15,hF,Rx (by omega)]
   have q66:=La b66
   refine Al ?_
   apply k56
   refine Ag rfl rfl ?_
   refine Aa rfl (Ah (v:=(iV ((k:Int)))) h52_7) ?_
   refine Aa rfl (Br (p:=(k:Int)) (q:=1) rfl rfl (z:=(((k + 1):Nat):Int)) (Bo (by first | rfl | omega | (push_cast; rfl)) (by omega) (by omega))) ?_
   refine l_A (iV ((((k + 1):Nat):Int))) rfl rfl ?_
   apply Ac
   refine ⟨_,?_,((k + 1)),rfl,rfl,rfl,rfl,h52_1,h52_5,h52_6,rfl,(by omega),(Ef p52_1 (by simp [Mq,ha61,b8,b15,b22,b32,b46,b49,b55,b66,q8,q15,q22,q32,q55,q66])),trivial⟩
   omega
  have q55:=of_decide_eq_false b55
  refine Bx ?_
  apply k50
  refine Ai fun K68 k68=>?_
  refine w_q rfl rfl fun K69 k69=>?_
  refine Ak rfl (Ay FField.f_house Tryd.underlying67 rfl rfl ty3 (by decide) h52_6 r41) fun v70 r70=>?_
  have ⟨g71a,g71b⟩:=At.rng r70
  refine Aa rfl (Bc ty3 rfl r70) ?_
  refine Ak rfl (Ay Market.f_houses Tryd.underlying26 rfl rfl Hu (by decide) h52_1 r2) fun v72 r72=>?_
  refine Ak rfl (Ax Hu rfl r72) fun v73 r73=>?_
  have g74:=Val.len r73
  refine Aa rfl (Ce (el:=9) Tryd.underlying22 rfl r73) ?_
  refine Aa rfl (Oq (p:=((m.houses.length:Nat):Int)) (q:=1) rfl rfl (z:=(((m.houses.length:Nat):Int) - 1)) (Bo (by first | rfl | omega | (push_cast; rfl)) (by omega) (by omega))) ?_
  refine Ae rfl (Bn (vs:=[(iV (a38.house)),(iV (0)),(iV ((((m.houses.length:Nat):Int) - 1)))]) (v:=(.bool (inR a38.house 0 ((((m.houses.length:Nat):Int) - 1))))) (c_In) Tryd.func79 rfl rfl ⟨rfl,rfl,rfl,trivial⟩ ?_)
  refine Aa rfl (Ix (k:=inR a38.house 0 ((((m.houses.length:Nat):Int) - 1))) rfl) ?_
  apply Ac
  apply k69
  refine As (t:=!(inR a38.house 0 ((((m.houses.length:Nat):Int) - 1)))) rfl (fun b75=>?_) (fun b75=>?_)
  ·have b76:=not_eq_t b75
   have q76:=Ui.1 b76
   refine w_q rfl rfl fun K77 k77=>?_
   refine l_A (iV (6)) rfl rfl ?_
   apply Ac
   apply k77
   refine Aj (Arw (Arz l2 l41)) ?_
   refine Aq ?_
   refine hret _ _ _ ?_
   refine ⟨rfl,rfl,Eq.trans (b:=(iV (6))) rfl ?_⟩
   have hi:Cl i (Mq m a38.name) = none:=Ep fun j hj=>p52_1 j (by omega)
   have hf:fieldAt m i = 6:=by simp [fieldAt,ha38,hi,b8,b15,b22,b32,b46,b49,b55,b75,b76,q8,q15,q22,q32,q55,q76]
   have hF:Ew m = 6:=by rw [Ew,if_neg (by omega),Db p26_1 (by omega) hf (by omega)]
   rw [Ch,Gt q8,Gt q15,hF,Rx (by omega)]
  have b78:=not_eq_f b75
  have q78:=Ge.1 b78
  refine Al ?_
  apply k68
  refine Ai fun K79 k79=>?_
  refine w_q rfl rfl fun K80 k80=>?_
  refine Ak rfl (Ay FField.f_grows Tryd.underlying67 rfl rfl Mx (by decide) h52_6 r41) fun v81 r81=>?_
  refine Ak rfl (Ax Mx rfl r81) fun v82 r82=>?_
  refine Ae rfl (Bn (vs:=[v82,(iV (0)),(iV (1000000))]) (v:=(.bool (Eg a38.grows 0 1000000))) (c_Inside r82) Tryd.func80 rfl rfl ⟨rfl,rfl,rfl,trivial⟩ ?_)
  refine Aa rfl (Ix (k:=Eg a38.grows 0 1000000) rfl) ?_
  apply Ac
  apply k80
  refine As (t:=!(Eg a38.grows 0 1000000)) rfl (fun b83=>?_) (fun b83=>?_)
  ·have b84:=not_eq_t b83
   refine w_q rfl rfl fun K85 k85=>?_
   refine l_A (iV (1)) rfl rfl ?_
   apply Ac
   apply k85
   refine Aj (Arw (Arz l2 l41)) ?_
   refine Aq ?_
   refine hret _ _ _ ?_
   refine ⟨rfl,rfl,Eq.trans (b:=(iV (1))) rfl ?_⟩
   have hi:Cl i (Mq m a38.name) = none:=Ep fun j hj=>p52_1 j (by omega)
   have hf:fieldAt m i = 1:=by simp [fieldAt,ha38,hi,b8,b15,b22,b32,b46,b49,b55,b75,b78,b83,b84,q8,q15,q22,q32,q55,q78]
   have hF:Ew m = 1:=by rw [Ew,if_neg (by omega),Db p26_1 (by omega) hf (by omega)]
   rw [Ch,Gt q8,Gt q15,hF,Rx (by omega)]
  have b86:=not_eq_f b83
  refine Al ?_
  apply k79
  refine w_q rfl rfl fun K87 k87=>?_
  refine Ak rfl (Ay FField.f_marks Tryd.underlying67 rfl rfl Ty (by decide) h52_6 r41) fun v88 r88=>?_
  refine Ak rfl (Ax Ty rfl r88) fun v89 r89=>?_
  refine Ak rfl (Ay Market.f_marks Tryd.underlying26 rfl rfl Hu (by decide) h52_1 r2) fun v90 r90=>?_
  refine Ak rfl (Ax Hu rfl r90) fun v91 r91=>?_
  have g92:=Val.len r91
  refine Aa rfl (Ce (el:=9) Tryd.underlying22 rfl r91) ?_
  refine Ae rfl (Bn (vs:=[v89,(iV (((m.marks.length:Nat):Int)))]) (v:=(iV (Fl a38.marks (((m.marks.length:Nat):Int))))) (c_checkSpans r89) Tryd.func81 rfl rfl ⟨rfl,rfl,trivial⟩ ?_)
  refine l_A (iV (Fl a38.marks (((m.marks.length:Nat):Int)))) rfl rfl ?_
  apply Ac
  apply k87
  refine w_q rfl rfl fun K93 k93=>?_
  refine l_M (iV (Fl a38.marks (((m.marks.length:Nat):Int)))) rfl rfl ?_
  refine Aa rfl (Dg (p:=Fl a38.marks (((m.marks.length:Nat):Int))) (q:=0) rfl rfl) ?_
  apply Ac
  apply k93
  refine As (t:=Fl a38.marks (((m.marks.length:Nat):Int)) != 0) rfl (fun b94=>?_) (fun b94=>?_)
  ·have q94:=Mb b94
   refine w_q rfl rfl fun K95 k95=>?_
   refine l_M (iV (Fl a38.marks (((m.marks.length:Nat):Int)))) rfl rfl ?_
   refine l_A (iV (Fl a38.marks (((m.marks.length:Nat):Int)))) rfl rfl ?_
   apply Ac
   apply k95
   refine Aj (Arw (Arz l2 l41)) ?_
   refine Aq ?_
   refine hret _ _ _ ?_
   refine ⟨rfl,rfl,Eq.trans (b:=(iV (Fl a38.marks (((m.marks.length:Nat):Int))))) rfl ?_⟩
   have hi:Cl i (Mq m a38.name) = none:=Ep fun j hj=>p52_1 j (by omega)
   have hf:fieldAt m i = Fl a38.marks (((m.marks.length:Nat):Int)):=by simp [fieldAt,ha38,hi,b8,b15,b22,b32,b46,b49,b55,b75,b78,b83,b86,b94,q8,q15,q22,q32,q55,q78,q94]
   have hF:Ew m = Fl a38.marks (((m.marks.length:Nat):Int)):=by rw [Ew,if_neg (by omega),Db p26_1 (by omega) hf q94]
   rw [Ch,Gt q8,Gt q15,hF,Rx q94]
  have q94:=Jh b94
  refine Al ?_
  apply k33
  refine Ag rfl rfl ?_
  refine Aa rfl (Ah (v:=(iV ((i:Int)))) h52_5) ?_
  refine Aa rfl (Br (p:=(i:Int)) (q:=1) rfl rfl (z:=(((i + 1):Nat):Int)) (Bo (by first | rfl | omega | (push_cast; rfl)) (by omega) (by omega))) ?_
  refine l_A (iV ((((i + 1):Nat):Int))) rfl rfl ?_
  refine Bj (Arw l41) ?_
  apply Ac
  refine ⟨_,?_,((i + 1)),rfl,rfl,rfl,rfl,h52_1,rfl,(by omega),(Ef p26_1 (by
  have hi:Cl i (Mq m a38.name) = none:=Ep fun j hj=>p52_1 j (by omega)
  simp [fieldAt,ha38,hi,b8,b15,b22,b32,b46,b49,b55,b75,b78,b83,b86,b94,q8,q15,q22,q32,q55,q78,q94])),trivial⟩
  omega
 have q32:=of_decide_eq_false b32
 refine Bx ?_
 apply k24
 refine Ai fun K96 k96=>?_
 refine w_q rfl rfl fun K97 k97=>?_
 refine Ak rfl (Ay Market.f_sales Tryd.underlying26 rfl rfl Pq (by decide) h26_1 r2) fun v98 r98=>?_
 refine Ak rfl (Ax Pq rfl r98) fun v99 r99=>?_
 have g100:=Val.len r99
 refine Aa rfl (Ce (el:=59) Tryd.underlying24 rfl r99) ?_
 refine Aa rfl (Gk (p:=((m.sales.length:Nat):Int)) (q:=8) rfl rfl) ?_
 apply Ac
 apply k97
 refine As (t:=decide (((m.sales.length:Nat):Int) > 8)) rfl (fun b101=>?_) (fun b101=>?_)
 ·have q101:=of_decide_eq_true b101
  refine w_q rfl rfl fun K102 k102=>?_
  refine l_A (iV (2)) rfl rfl ?_
  apply Ac
  apply k102
  refine Aj (Arw l2) ?_
  refine Aq ?_
  refine hret _ _ _ ?_
  refine ⟨rfl,rfl,Eq.trans (b:=(iV (2))) rfl ?_⟩
  have hF:Ew m = 0:=by rw [Ew,if_neg (by omega),Fb fun j hj=>p26_1 j (by omega)]
  rw [Ch,Gt q8,Gt q15,Gt hF,Jb,if_pos (by omega)]
 have q101:=of_decide_eq_false b101
 refine Al ?_
 apply k96
 refine Ai fun K103 k103=>?_
 refine w_q rfl rfl fun K104 k104=>?_
 refine l_A (iV (0)) rfl rfl ?_
 apply Ac
 apply k104
 refine Ao ?_
 refine Cc (fun mm ee dd ρ' σ'=>∃ (s:Nat),(m.sales.length - s) = mm∧[] = dd∧ρ2 = ρ'∧σ = σ'∧ee 1 = (.pointer (some ⟨k2,0,none⟩))∧ee 9 = (iV ((s:Int)))∧(s ≤ m.sales.length)∧(∀ j,j < s→Iz m j = 0)∧True) (m:=_) ⟨0,rfl,rfl,rfl,rfl,h26_1,rfl,(Nat.zero_le _),(fun j h=>absurd h (Nat.not_lt_zero _)),trivial⟩ ?_
 rintro m105 e105 _ _ _ ⟨s,rfl,rfl,rfl,rfl,h105_1,h105_9,p105_0,p105_1,_⟩
 refine Ai fun K106 k106=>?_
 refine w_q rfl rfl fun K107 k107=>?_
 refine Aa rfl (Ah (v:=(iV ((s:Int)))) h105_9) ?_
 refine Ak rfl (Ay Market.f_sales Tryd.underlying26 rfl rfl Pq (by decide) h105_1 r2) fun v108 r108=>?_
 refine Ak rfl (Ax Pq rfl r108) fun v109 r109=>?_
 have g110:=Val.len r109
 refine Aa rfl (Ce (el:=59) Tryd.underlying24 rfl r109) ?_
 refine Aa rfl (Da (p:=(s:Int)) (q:=((m.sales.length:Nat):Int)) rfl rfl) ?_
 apply Ac
 apply k107
 refine As (t:=decide ((s:Int) < ((m.sales.length:Nat):Int))) rfl (fun b111=>?_) (fun b111=>?_)
 ·have q111:=of_decide_eq_true b111
  refine Al ?_
  apply k106
  refine Ai fun K112 k112=>?_
  refine Ao ?_
  refine w_q rfl rfl fun K113 k113=>?_
  refine Ak rfl (Ay Market.f_sales Tryd.underlying26 rfl rfl Pq (by decide) h105_1 r2) fun v114 r114=>?_
  refine Ak rfl (Ax Pq rfl r114) fun v115 r115=>?_
  refine Aa rfl (Ah (v:=(iV ((s:Int)))) h105_9) ?_
  obtain ⟨a117,ha117⟩:=Ed (xs:=m.sales) (i:=s) (by omega)
  refine Ak rfl (Ci s Tryd.underlying24 Su rfl r115 (q:=(s:Int)) rfl rfl ha117) fun v116 r116=>?_
  refine Ak rfl (Ax Su rfl r116) fun v118 r118=>?_
  refine Ae rfl (Ct Aeo fun k119=>?_)
  refine Cx rfl (Du (v:=v118) (a:=a117) (c:=Ags) Su rfl rfl r118 rfl ?_)
  refine Bb (a:=a117) r118 fun ρ120 l120 r120=>?_
  replace r2:=Arv l120 r2
  replace r114:=Arv l120 r114
  replace r115:=Asa l120 r115
  replace r116:=Arv l120 r116
  replace r118:=Asa l120 r118
  apply Ac
  apply k113
  refine Ai fun K121 k121=>?_
  refine w_q rfl rfl fun K122 k122=>?_
  refine Ak rfl (Ay Sale.f_grams Tryd.underlying59 rfl rfl ty3 (by decide) rfl r120) fun v123 r123=>?_
  have ⟨g124a,g124b⟩:=At.rng r123
  refine Aa rfl (Bc ty3 rfl r123) ?_
  refine Ae rfl (Bn (vs:=[(iV (a117.grams)),(iV (0)),(iV (1000000))]) (v:=(.bool (inR a117.grams 0 1000000))) (c_In) Tryd.func79 rfl rfl ⟨rfl,rfl,rfl,trivial⟩ ?_)
  refine Aa rfl (Ix (k:=inR a117.grams 0 1000000) rfl) ?_
  apply Ac
  apply k122
  refine As (t:=!(inR a117.grams 0 1000000)) rfl (fun b125=>?_) (fun b125=>?_)
  ·have b126:=not_eq_t b125
   have q126:=Ui.1 b126
   refine w_q rfl rfl fun K127 k127=>?_
   refine l_A (iV (1)) rfl rfl ?_
   apply Ac
   apply k127
   refine Aj (Arw (Arz l2 l120)) ?_
   refine Aq ?_
   refine hret _ _ _ ?_
   refine ⟨rfl,rfl,Eq.trans (b:=(iV (1))) rfl ?_⟩
   have hF:Ew m = 0:=by rw [Ew,if_neg (by omega),Fb fun j hj=>p26_1 j (by omega)]
   have hf:Iz m s = 1:=by simp [Iz,ha117,b8,b15,b22,b32,b101,b111,b125,b126,q8,q15,q22,q32,q101,q111,q126]
   rw [Ch,Gt q8,Gt q15,Gt hF,Jb,if_neg (by omega),Db p105_1 (by omega) hf (by omega)]
  have b128:=not_eq_f b125
  have q128:=Ge.1 b128
  refine Al ?_
  apply k121
  refine Ai fun K129 k129=>?_
  refine w_q rfl rfl fun K130 k130=>?_
  refine Ak rfl (Ay Sale.f_sellers Tryd.underlying59 rfl rfl Vg (by decide) rfl r120) fun v131 r131=>?_
  refine Ak rfl (Ax Vg rfl r131) fun v132 r132=>?_
  have g133:=Val.len r132
  refine Aa rfl (Ce (el:=3) Tryd.underlying30 rfl r132) ?_
  refine Aa rfl (Ek (p:=((a117.sellers.length:Nat):Int)) (q:=0) rfl rfl) ?_
  apply Ac
  apply k130
  refine As (t:=((a117.sellers.length:Nat):Int) == 0) rfl (fun b134=>?_) (fun b134=>?_)
  ·have q134:=Jo b134
   refine w_q rfl rfl fun K135 k135=>?_
   refine l_A (iV (2)) rfl rfl ?_
   apply Ac
   apply k135
   refine Aj (Arw (Arz l2 l120)) ?_
   refine Aq ?_
   refine hret _ _ _ ?_
   refine ⟨rfl,rfl,Eq.trans (b:=(iV (2))) rfl ?_⟩
   have hF:Ew m = 0:=by rw [Ew,if_neg (by omega),Fb fun j hj=>p26_1 j (by omega)]
   have hf:Iz m s = 2:=by simp [Iz,ha117,b8,b15,b22,b32,b101,b111,b125,b128,b134,q8,q15,q22,q32,q101,q111,q128,q134]
   rw [Ch,Gt q8,Gt q15,Gt hF,Jb,if_neg (by omega),Db p105_1 (by omega) hf (by omega)]
  have q134:=La b134
  refine Al ?_
  apply k129
  refine w_q rfl rfl fun K136 k136=>?_
  refine l_A (iV (0)) rfl rfl ?_
  apply Ac
  apply k136
  refine Ao ?_
  refine Cc (fun mm ee dd ρ' σ'=>∃ (q:Nat),(a117.sellers.length - q) = mm∧[] = dd∧ρ120 = ρ'∧σ = σ'∧ee 1 = (.pointer (some ⟨k2,0,none⟩))∧ee 9 = (iV ((s:Int)))∧ee 10 = (.pointer (some ⟨k119,0,none⟩))∧ee 11 = (iV ((q:Int)))∧(q ≤ a117.sellers.length)∧(∀ j,j < q→Gu m a117 j = 0)∧True) (m:=_) ⟨0,rfl,rfl,rfl,rfl,h105_1,h105_9,rfl,rfl,(Nat.zero_le _),(fun j h=>absurd h (Nat.not_lt_zero _)),trivial⟩ ?_
  rintro m137 e137 _ _ _ ⟨q,rfl,rfl,rfl,rfl,h137_1,h137_9,h137_10,h137_11,p137_0,p137_1,_⟩
  refine Ai fun K138 k138=>?_
  refine w_q rfl rfl fun K139 k139=>?_
  refine Aa rfl (Ah (v:=(iV ((q:Int)))) h137_11) ?_
  refine Ak rfl (Ay Sale.f_sellers Tryd.underlying59 rfl rfl Vg (by decide) h137_10 r120) fun v140 r140=>?_
  refine Ak rfl (Ax Vg rfl r140) fun v141 r141=>?_
  have g142:=Val.len r141
  refine Aa rfl (Ce (el:=3) Tryd.underlying30 rfl r141) ?_
  refine Aa rfl (Da (p:=(q:Int)) (q:=((a117.sellers.length:Nat):Int)) rfl rfl) ?_
  apply Ac
  apply k139
  refine As (t:=decide ((q:Int) < ((a117.sellers.length:Nat):Int))) rfl (fun b143=>?_) (fun b143=>?_)
  ·have q143:=of_decide_eq_true b143
   refine Al ?_
   apply k138
   refine Ai fun K144 k144=>?_
   refine Ao ?_
   refine Ai fun K145 k145=>?_
   refine Ai fun K146 k146=>?_
   refine Dc [0,1,2,3,4,5,6,7,8,9,10] (by kernel_rfl) rfl rfl ?_
   refine Cd (i:=0) [o1,o0,o0,o0,o0,o0,o0,o0,o0,o0,o0] rfl (by kernel_rfl) rfl Ary rfl (Ay Sale.f_sellers Tryd.underlying59 rfl rfl Vg (by decide) h137_10 r120) fun v147 r147=>?_
   refine Cd (i:=1) [o1,o1,o0,o0,o0,o0,o0,o0,o0,o0,o0] rfl (by kernel_rfl) rfl Ary rfl (Ax Vg rfl r147) fun v148 r148=>?_
   refine Be (i:=2) [o1,o1,o1,o0,o0,o0,o0,o0,o0,o0,o0] rfl (by kernel_rfl) rfl Ary rfl (Ah (v:=(iV ((q:Int)))) h137_11) ?_
   obtain ⟨a150,ha150⟩:=Ed (xs:=a117.sellers) (i:=q) (by omega)
   refine Cd (i:=3) [o1,o1,o1,o1,o0,o0,o0,o0,o0,o0,o0] rfl (by kernel_rfl) rfl Ary rfl (Ci q Tryd.underlying30 ty3 rfl r148 (q:=(q:Int)) rfl rfl ha150) fun v149 r149=>?_
   have ⟨g151a,g151b⟩:=At.rng r149
   refine Be (i:=4) [o1,o1,o1,o1,o1,o0,o0,o0,o0,o0,o0] rfl (by kernel_rfl) rfl Ary rfl (Bc ty3 rfl r149) ?_
   refine Hl (i:=5) Apb rfl (by kernel_rfl) rfl Ary rfl (Ay Market.f_houses Tryd.underlying26 rfl rfl Hu (by decide) h137_1 r2) fun v152 r152=>?_
   refine Hl (i:=6) zZ2 rfl (by kernel_rfl) rfl Ary rfl (Ax Hu rfl r152) fun v153 r153=>?_
   have g154:=Val.len r153
   refine Bg (i:=7) zZ3 rfl (by kernel_rfl) rfl Ary rfl (Ce (el:=9) Tryd.underlying22 rfl r153) ?_
   refine Bg (i:=8) zZ4 rfl (by kernel_rfl) rfl Ary rfl (Oq (p:=((m.houses.length:Nat):Int)) (q:=1) rfl rfl (z:=(((m.houses.length:Nat):Int) - 1)) (Bo (by first | rfl | omega | (push_cast; rfl)) (by omega) (by omega))) ?_
   refine Dj (i:=9) zZ5 rfl (by kernel_rfl) rfl rfl (Bn (vs:=[(iV (a150)),(iV (0)),(iV ((((m.houses.length:Nat):Int) - 1)))]) (v:=(.bool (inR a150 0 ((((m.houses.length:Nat):Int) - 1))))) (c_In) Tryd.func79 rfl rfl ⟨rfl,rfl,rfl,trivial⟩ ⟨Ary,?_⟩)
   refine Bg (i:=10) zZ6 rfl (by kernel_rfl) rfl Ary rfl (Ix (k:=inR a150 0 ((((m.houses.length:Nat):Int) - 1))) rfl) ?_
   refine Ec rfl ?_
   apply k146
   refine As (t:=!(inR a150 0 ((((m.houses.length:Nat):Int) - 1)))) rfl (fun b155=>?_) (fun b155=>?_)
   ·have b156:=not_eq_t b155
    have q156:=Ui.1 b156
    refine w_q rfl rfl fun K157 k157=>?_
    refine l_A (iV (6)) rfl rfl ?_
    apply Ac
    apply k157
    refine Aj (Arw (Arz l2 l120)) ?_
    refine Aq ?_
    refine hret _ _ _ ?_
    refine ⟨rfl,rfl,Eq.trans (b:=(iV (6))) rfl ?_⟩
    have hF:Ew m = 0:=by rw [Ew,if_neg (by omega),Fb fun j hj=>p26_1 j (by omega)]
    have hq:Gu m a117 q = 6:=by
     simp [Gu,ha150,b8,b15,b22,b32,b101,b111,b125,b128,b134,b143,b155,b156]
    have hf:Iz m s = 6:=by simp only [Iz,ha117,b8,b15,b22,b32,b101,b111,b125,b128,b134,b143,b155,b156,if_true]; rw [if_neg (by omega),Db p137_1 (by omega) hq (by omega)]
    rw [Ch,Gt q8,Gt q15,Gt hF,Jb,if_neg (by omega),Db p105_1 (by omega) hf (by omega)]
   have b158:=not_eq_f b155
   have q158:=Ge.1 b158
   refine Al ?_
   apply k145
   refine Ai fun K159 k159=>?_
   refine Dc [0,1,2,3,4,5,6,7,8,9,10,11,12,13,14,15] (by kernel_rfl) rfl rfl ?_
   refine Bg (i:=0) Apx rfl (by kernel_rfl) rfl Ary rfl (Ah (v:=(iV ((q:Int)))) h137_11) ?_
   refine Bg (i:=1) Arn rfl (by kernel_rfl) rfl Ary rfl (Gk (p:=(q:Int)) (q:=0) rfl rfl) ?_
   refine Bg (i:=2) Aqz rfl (by kernel_rfl) rfl Ary rfl (Ah (v:=(.bool (decide ((q:Int) > 0)))) rfl) ?_
   refine Akl (decide ((q:Int) > 0)) (fun b160=>?_) (fun b160=>?_)
   ·have q160:=of_decide_eq_true b160
    refine Cd (i:=3) Arc rfl (by kernel_rfl) rfl Ary (Ar rfl rfl rfl b160) (Ay Sale.f_sellers Tryd.underlying59 rfl rfl Vg (by decide) h137_10 r120) fun v161 r161=>?_
    refine Cd (i:=4) Ark rfl (by kernel_rfl) rfl Ary (Ar rfl rfl rfl b160) (Ax Vg rfl r161) fun v162 r162=>?_
    refine Be (i:=5) Aqg rfl (by kernel_rfl) rfl Ary (Ar rfl rfl rfl b160) (Ah (v:=(iV ((q:Int)))) h137_11) ?_
    refine Cd (i:=6) Aqb rfl (by kernel_rfl) rfl Ary (Ar rfl rfl rfl b160) (Ci q Tryd.underlying30 ty3 rfl r162 (q:=(q:Int)) rfl rfl ha150) fun v163 r163=>?_
    have ⟨g164a,g164b⟩:=At.rng r163
    refine Be (i:=7) Aoa rfl (by kernel_rfl) rfl Ary (Ar rfl rfl rfl b160) (Bc ty3 rfl r163) ?_
    refine Cd (i:=8) Amy rfl (by kernel_rfl) rfl Ary (Ar rfl rfl rfl b160) (Ay Sale.f_sellers Tryd.underlying59 rfl rfl Vg (by decide) h137_10 r120) fun v165 r165=>?_
    refine Cd (i:=9) Anr rfl (by kernel_rfl) rfl Ary (Ar rfl rfl rfl b160) (Ax Vg rfl r165) fun v166 r166=>?_
    refine Bg (i:=10) [o1,o1,o1,o1,o1,o1,o1,o1,o1,o1,o1,o0,o0,o0,o0,o0] rfl (by kernel_rfl) rfl Ary (Ar rfl rfl rfl b160) (Ah (v:=(iV ((q:Int)))) h137_11) ?_
    refine Bg (i:=11) [o1,o1,o1,o1,o1,o1,o1,o1,o1,o1,o1,o1,o0,o0,o0,o0] rfl (by kernel_rfl) rfl Ary (Ar rfl rfl rfl b160) (Oq (p:=(q:Int)) (q:=1) rfl rfl (z:=((q:Int) - 1)) (Bo (by first | rfl | omega | (push_cast; rfl)) (by omega) (by omega))) ?_
    obtain ⟨a168,ha168⟩:=Ed (xs:=a117.sellers) (i:=(((q:Int) - 1)).toNat) (by omega)
    refine Hl (i:=12) Ans rfl (by kernel_rfl) rfl Ary (Ar rfl rfl rfl b160) (Ci ((((q:Int) - 1)).toNat) Tryd.underlying30 ty3 rfl r166 (q:=((q:Int) - 1)) rfl (by omega) ha168) fun v167 r167=>?_
    have ⟨g169a,g169b⟩:=At.rng r167
    refine Bg (i:=13) Apc rfl (by kernel_rfl) rfl Ary (Ar rfl rfl rfl b160) (Bc ty3 rfl r167) ?_
    refine Bg (i:=14) Amv rfl (by kernel_rfl) rfl Ary (Ar rfl rfl rfl b160) (Tx (p:=a150) (q:=a168) rfl rfl) ?_
    refine Bg (i:=15) Apa rfl (by kernel_rfl) rfl Ary rfl (Bt rfl b160 (v:=(.bool (decide (a150 ≤ a168)))) rfl) ?_
    refine Ec rfl ?_
    apply k159
    refine As (t:=decide (a150 ≤ a168)) rfl (fun b170=>?_) (fun b170=>?_)
    ·have q170:=of_decide_eq_true b170
     refine w_q rfl rfl fun K171 k171=>?_
     refine l_A (iV (7)) rfl rfl ?_
     apply Ac
     apply k171
     refine Aj (Arw (Arz l2 l120)) ?_
     refine Aq ?_
     refine hret _ _ _ ?_
     refine ⟨rfl,rfl,Eq.trans (b:=(iV (7))) rfl ?_⟩
     have hF:Ew m = 0:=by rw [Ew,if_neg (by omega),Fb fun j hj=>p26_1 j (by omega)]
     have hq:Gu m a117 q = 7:=by
      have hp:a117.sellers[q - 1]? = some a168:=by rw [← ha168]; congr 1; omega
      have h0:0 < q:=by omega
      simp only [Gu,ha150,if_pos h0,hp,b8,b15,b22,b32,b101,b111,b125,b128,b134,b143,b155,b158,b160,b170,if_true]; first | rw [if_pos (by omega)] | rw [if_neg (by omega)]
     have hf:Iz m s = 7:=by simp only [Iz,ha117,b8,b15,b22,b32,b101,b111,b125,b128,b134,b143,b155,b158,b160,b170,if_true]; rw [if_neg (by omega),Db p137_1 (by omega) hq (by omega)]
     rw [Ch,Gt q8,Gt q15,Gt hF,Jb,if_neg (by omega),Db p105_1 (by omega) hf (by omega)]
    have q170:=of_decide_eq_false b170
    refine Al ?_
    apply k144
    refine Ag rfl rfl ?_
    refine Aa rfl (Ah (v:=(iV ((q:Int)))) h137_11) ?_
    refine Aa rfl (Br (p:=(q:Int)) (q:=1) rfl rfl (z:=(((q + 1):Nat):Int)) (Bo (by first | rfl | omega | (push_cast; rfl)) (by omega) (by omega))) ?_
    refine l_A (iV ((((q + 1):Nat):Int))) rfl rfl ?_
    apply Ac
    refine ⟨_,?_,((q + 1)),rfl,rfl,rfl,rfl,h137_1,h137_9,h137_10,rfl,(by omega),(Ef p137_1 (by
 have hp:a117.sellers[q - 1]? = some a168:=by rw [← ha168]; congr 1; omega
 have h0:0 < q:=by omega
 simp only [Gu,ha150,if_pos h0,hp,b8,b15,b22,b32,b101,b111,b125,b128,b134,b143,b155,b158,b160,b170,if_true]; first | rw [if_pos (by omega)] | rw [if_neg (by omega)])),trivial⟩
    omega
   have q160:=of_decide_eq_false b160
   refine Ua (i:=3) Arc rfl (by kernel_rfl) rfl Ary (Bl rfl rfl rfl b160) ?_
   refine Ua (i:=4) Ark rfl (by kernel_rfl) rfl Ary (Bl rfl rfl rfl b160) ?_
   refine Ua (i:=5) Aqg rfl (by kernel_rfl) rfl Ary (Bl rfl rfl rfl b160) ?_
   refine Ua (i:=6) Aqb rfl (by kernel_rfl) rfl Ary (Bl rfl rfl rfl b160) ?_
   refine Ua (i:=7) Aoa rfl (by kernel_rfl) rfl Ary (Bl rfl rfl rfl b160) ?_
   refine Ua (i:=8) Amy rfl (by kernel_rfl) rfl Ary (Bl rfl rfl rfl b160) ?_
   refine Ua (i:=9) Anr rfl (by kernel_rfl) rfl Ary (Bl rfl rfl rfl b160) ?_
   refine Xl (i:=10) [o1,o1,o1,o1,o1,o1,o1,o1,o1,o1,o1,o0,o0,o0,o0,o0] rfl (by kernel_rfl) rfl Ary (Bl rfl rfl rfl b160) ?_
   refine Xl (i:=11) [o1,o1,o1,o1,o1,o1,o1,o1,o1,o1,o1,o1,o0,o0,o0,o0] rfl (by kernel_rfl) rfl Ary (Bl rfl rfl rfl b160) ?_
   refine Xl (i:=12) Ans rfl (by kernel_rfl) rfl Ary (Bl rfl rfl rfl b160) ?_
   refine Xl (i:=13) Apc rfl (by kernel_rfl) rfl Ary (Bl rfl rfl rfl b160) ?_
   refine Xl (i:=14) Amv rfl (by kernel_rfl) rfl Ary (Bl rfl rfl rfl b160) ?_
   refine Bg (i:=15) Apa rfl (by kernel_rfl) rfl Ary rfl (Bm rfl b160 (v:=(.bool (false))) rfl) ?_
   refine Ec rfl ?_
   apply k159
   refine Cg rfl rfl ?_
   refine Al ?_
   apply k144
   refine Ag rfl rfl ?_
   refine Aa rfl (Ah (v:=(iV ((q:Int)))) h137_11) ?_
   refine Aa rfl (Br (p:=(q:Int)) (q:=1) rfl rfl (z:=(((q + 1):Nat):Int)) (Bo (by first | rfl | omega | (push_cast; rfl)) (by omega) (by omega))) ?_
   refine l_A (iV ((((q + 1):Nat):Int))) rfl rfl ?_
   apply Ac
   refine ⟨_,?_,((q + 1)),rfl,rfl,rfl,rfl,h137_1,h137_9,h137_10,rfl,(by omega),(Ef p137_1 (by
 have h0:¬ 0 < q:=by omega
 simp [Gu,ha150,if_neg h0,b8,b15,b22,b32,b101,b111,b125,b128,b134,b143,b155,b158,b160])),trivial⟩
   omega
  have q143:=of_decide_eq_false b143
  refine Bx ?_
  apply k112
  refine Ag rfl rfl ?_
  refine Aa rfl (Ah (v:=(iV ((s:Int)))) h137_9) ?_
  refine Aa rfl (Br (p:=(s:Int)) (q:=1) rfl rfl (z:=(((s + 1):Nat):Int)) (Bo (by first | rfl | omega | (push_cast; rfl)) (by omega) (by omega))) ?_
  refine l_A (iV ((((s + 1):Nat):Int))) rfl rfl ?_
  refine Bj (Arw l120) ?_
  apply Ac
  refine ⟨_,?_,((s + 1)),rfl,rfl,rfl,rfl,h137_1,rfl,(by omega),(Ef p105_1 (by
  simp only [Iz,ha117,b8,b15,b22,b32,b101,b111,b125,b128,b134,b143,if_true]; rw [if_neg (by omega),Fb fun j hj=>p137_1 j (by omega)])),trivial⟩
  omega
 have q111:=of_decide_eq_false b111
 refine Bx ?_
 apply k103
 refine w_q rfl rfl fun K172 k172=>?_
 refine l_A (iV (0)) rfl rfl ?_
 apply Ac
 apply k172
 refine Aj (Arw l2) ?_
 refine Aq ?_
 refine hret _ _ _ ?_
 refine ⟨rfl,rfl,Eq.trans (b:=(iV (0))) rfl ?_⟩
 have hF:Ew m = 0:=by rw [Ew,if_neg (by omega),Fb fun j hj=>p26_1 j (by omega)]
 rw [Ch,Gt q8,Gt q15,Gt hF,Jb,if_neg (by omega),Fb fun j hj=>p105_1 j (by omega)]
end Go.Proofs.YtoefdnbaklajeaaDoor

namespace Go.Proofs.YtoefdnbaklajeaaDoor
open Go
set_option maxRecDepth 100000 in
theorem c_Gives {mn:Bool} {X:Frame→List Frame→Ro→Own→Cy→Prop} {ρ:Ro} {σ:Own} {m:Market} {vm:Value} {h:Int} (rm:Val ρ vm m) (ok:MarketOk m):CallsH (CX mn X) 123 #[vm,(iV (h))] ρ σ (fun w ρ' σ'=>ρ' = ρ∧σ' = σ∧w = (iV (Eo m h))):=by
 have hn6:=ok.nfields
 refine Bh (n:=32) (args:=[vm,(iV (h))]) [4] Tryd.func123 rfl rfl rfl rfl fun Q hret hnor=>?_
 refine w_q rfl rfl fun K1 k1=>?_
 refine Ae rfl (Eb (v:=vm) rfl fun k2=>?_)
 refine Bb (a:=m) rm fun ρ2 l2 r2=>?_
 replace rm:=Asa l2 rm
 refine l_A (iV (0)) rfl rfl ?_
 apply Ac
 apply k1
 refine w_q rfl rfl fun K3 k3=>?_
 refine l_A (iV (0)) rfl rfl ?_
 apply Ac
 apply k3
 refine Ai fun K4 k4=>?_
 refine w_q rfl rfl fun K5 k5=>?_
 refine l_A (iV (0)) rfl rfl ?_
 apply Ac
 apply k5
 refine Ao ?_
 refine Cc (fun mm ee dd ρ' σ'=>∃ (i:Nat) (n:Int),(m.fields.length - i) = mm∧[] = dd∧ρ2 = ρ'∧σ = σ'∧ee 1 = (iV (h))∧ee 2 = (.pointer (some ⟨k2,0,none⟩))∧ee 5 = (iV (n))∧ee 6 = (iV ((i:Int)))∧(i ≤ m.fields.length)∧(n = ((m.fields.take i).map (Es h)).sum)∧(0 ≤ n∧n ≤ 1000000 * (i:Int))∧True) (m:=_) ⟨0,0,rfl,rfl,rfl,rfl,rfl,rfl,rfl,rfl,(Nat.zero_le _),(by simp),(by omega),trivial⟩ ?_
 rintro m6 e6 _ _ _ ⟨i,n,rfl,rfl,rfl,rfl,h6_1,h6_2,h6_5,h6_6,p6_0,p6_1,p6_2,_⟩
 refine Ai fun K7 k7=>?_
 refine w_q rfl rfl fun K8 k8=>?_
 refine Aa rfl (Ah (v:=(iV ((i:Int)))) h6_6) ?_
 refine Ak rfl (Ay Market.f_fields Tryd.underlying26 rfl rfl Se (by decide) h6_2 r2) fun v9 r9=>?_
 refine Ak rfl (Ax Se rfl r9) fun v10 r10=>?_
 have g11:=Val.len r10
 refine Aa rfl (Ce (el:=67) Tryd.underlying23 rfl r10) ?_
 refine Aa rfl (Da (p:=(i:Int)) (q:=((m.fields.length:Nat):Int)) rfl rfl) ?_
 apply Ac
 apply k8
 refine As (t:=decide ((i:Int) < ((m.fields.length:Nat):Int))) rfl (fun b12=>?_) (fun b12=>?_)
 ·have q12:=of_decide_eq_true b12
  refine Al ?_
  apply k7
  refine Ai fun K13 k13=>?_
  refine Ao ?_
  refine w_q rfl rfl fun K14 k14=>?_
  refine Ak rfl (Ay Market.f_fields Tryd.underlying26 rfl rfl Se (by decide) h6_2 r2) fun v15 r15=>?_
  refine Ak rfl (Ax Se rfl r15) fun v16 r16=>?_
  refine Aa rfl (Ah (v:=(iV ((i:Int)))) h6_6) ?_
  obtain ⟨a18,ha18⟩:=Ed (xs:=m.fields) (i:=i) (by omega)
  have gba18:=(ok.field _ _ ha18).2.2.2.1
  have gca18:=Xn (h:=h) gba18
  have gsa18:=Yf (f:=Es h) ha18
  refine Ak rfl (Ci i Tryd.underlying23 Ln rfl r16 (q:=(i:Int)) rfl rfl ha18) fun v17 r17=>?_
  refine Ak rfl (Ay FField.f_house Tryd.underlying67 rfl rfl ty3 (by decide) rfl r17) fun v19 r19=>?_
  have ⟨g20a,g20b⟩:=At.rng r19
  refine Aa rfl (Bc ty3 rfl r19) ?_
  refine Aa rfl (Ah (v:=(iV (h))) h6_1) ?_
  refine Aa rfl (Ek (p:=a18.house) (q:=h) rfl rfl) ?_
  apply Ac
  apply k14
  refine As (t:=a18.house == h) rfl (fun b21=>?_) (fun b21=>?_)
  ·have q21:=Jo b21
   refine Ag rfl rfl ?_
   refine Aa rfl (Ah (v:=(iV (n))) h6_5) ?_
   refine Ak rfl (Ay Market.f_fields Tryd.underlying26 rfl rfl Se (by decide) h6_2 r2) fun v22 r22=>?_
   refine Ak rfl (Ax Se rfl r22) fun v23 r23=>?_
   refine Aa rfl (Ah (v:=(iV ((i:Int)))) h6_6) ?_
   refine Ak rfl (Ci i Tryd.underlying23 Ln rfl r23 (q:=(i:Int)) rfl rfl ha18) fun v24 r24=>?_
   refine Ak rfl (Ay FField.f_grows Tryd.underlying67 rfl rfl Mx (by decide) rfl r24) fun v25 r25=>?_
   refine Ak rfl (Ay Span.f_high Tryd.underlying65 rfl rfl ty3 (by decide) rfl r25) fun v26 r26=>?_
   have ⟨g27a,g27b⟩:=At.rng r26
   refine Aa rfl (Bc ty3 rfl r26) ?_
   refine Aa rfl (Br (p:=n) (q:=a18.grows.high) rfl rfl (z:=(n + a18.grows.high)) (Bo (by rfl) (by omega) (by omega))) ?_
   refine l_A (iV ((n + a18.grows.high))) rfl rfl ?_
   apply Ac
   apply k13
   refine Ag rfl rfl ?_
   refine Aa rfl (Ah (v:=(iV ((i:Int)))) h6_6) ?_
   refine Aa rfl (Br (p:=(i:Int)) (q:=1) rfl rfl (z:=(((i + 1):Nat):Int)) (Bo (by first | rfl | omega | (push_cast; rfl)) (by omega) (by omega))) ?_
   refine l_A (iV ((((i + 1):Nat):Int))) rfl rfl ?_
   apply Ac
   refine ⟨_,?_,((i + 1)),((n + a18.grows.high)),rfl,rfl,rfl,rfl,h6_1,h6_2,rfl,rfl,(by omega),(by rw [gsa18,← p6_1]; simp only [Es]; rw [if_pos q21]),(by constructor <;> push_cast <;> omega),trivial⟩
   omega
  have q21:=La b21
  refine Al ?_
  apply k13
  refine Ag rfl rfl ?_
  refine Aa rfl (Ah (v:=(iV ((i:Int)))) h6_6) ?_
  refine Aa rfl (Br (p:=(i:Int)) (q:=1) rfl rfl (z:=(((i + 1):Nat):Int)) (Bo (by first | rfl | omega | (push_cast; rfl)) (by omega) (by omega))) ?_
  refine l_A (iV ((((i + 1):Nat):Int))) rfl rfl ?_
  apply Ac
  refine ⟨_,?_,((i + 1)),(n),rfl,rfl,rfl,rfl,h6_1,h6_2,h6_5,rfl,(by omega),(by rw [gsa18,← p6_1]; simp only [Es]; rw [if_neg q21]; omega),(by constructor <;> push_cast <;> omega),trivial⟩
  omega
 have q12:=of_decide_eq_false b12
 refine Bx ?_
 apply k4
 refine w_q rfl rfl fun K28 k28=>?_
 refine Aa rfl (Ah (v:=(iV (n))) h6_5) ?_
 refine l_A (iV (n)) rfl rfl ?_
 apply Ac
 apply k28
 refine Aj (Arw l2) ?_
 refine Aq ?_
 refine hret _ _ _ ?_
 refine ⟨rfl,rfl,Eq.trans (b:=(iV (n))) rfl ?_⟩
 rw [p6_1,List.take_of_length_le (by omega)]; rfl
end Go.Proofs.YtoefdnbaklajeaaDoor

namespace Go.Proofs.YtoefdnbaklajeaaDoor
open Go
theorem pop8_all:(List.range 256).all (fun x=>De x == x % 2 + De (x / 2)) = true:=by decide +kernel
theorem pop8_step {x:Nat} (h:x < 256):De x = x % 2 + De (x / 2):=by
  have:=List.all_eq_true.1 pop8_all x (by simpa using h)
  simpa using this
theorem pop8_0:De 0 = 0:=by decide
end Go.Proofs.YtoefdnbaklajeaaDoor

namespace Go.Proofs.YtoefdnbaklajeaaDoor
open Go
set_option maxRecDepth 100000 in
theorem c_size {mn:Bool} {X:Frame→List Frame→Ro→Own→Cy→Prop} {ρ:Ro} {σ:Own} {s:Nat} (hs:s < 256):CallsH (CX mn X) 99 #[(iV ((s:Int)))] ρ σ (fun w ρ' σ'=>ρ' = ρ∧σ' = σ∧w = (iV (((De s:Nat):Int)))):=by
 refine Bh (n:=13) (args:=[(iV ((s:Int)))]) [2] Tryd.func99 rfl rfl rfl rfl fun Q hret hnor=>?_
 refine w_q rfl rfl fun K1 k1=>?_
 refine l_A (iV (0)) rfl rfl ?_
 apply Ac
 apply k1
 refine w_q rfl rfl fun K2 k2=>?_
 refine l_A (iV (0)) rfl rfl ?_
 apply Ac
 apply k2
 refine Ai fun K3 k3=>?_
 refine Ao ?_
 refine Cc (fun mm ee dd ρ' σ'=>∃ (x:Nat) (c:Nat),(x) = mm∧[] = dd∧ρ = ρ'∧σ = σ'∧ee 0 = (iV ((x:Int)))∧ee 3 = (iV ((c:Int)))∧(c + x ≤ s)∧(c + De x = De s)∧True) (m:=_) ⟨s,0,rfl,rfl,rfl,rfl,rfl,rfl,(by omega),(Nat.zero_add _),trivial⟩ ?_
 rintro m4 e4 _ _ _ ⟨x,c,rfl,rfl,rfl,rfl,h4_0,h4_3,p4_0,p4_1,_⟩
 refine Ai fun K5 k5=>?_
 refine w_q rfl rfl fun K6 k6=>?_
 refine Aa rfl (Ah (v:=(iV ((x:Int)))) h4_0) ?_
 refine Aa rfl (Gk (p:=(x:Int)) (q:=0) rfl rfl) ?_
 apply Ac
 apply k6
 refine As (t:=decide ((x:Int) > 0)) rfl (fun b7=>?_) (fun b7=>?_)
 ·have q7:=of_decide_eq_true b7
  refine Al ?_
  apply k5
  refine Ao ?_
  refine w_q rfl rfl fun K8 k8=>?_
  refine Aa rfl (Ah (v:=(iV ((c:Int)))) h4_3) ?_
  refine Aa rfl (Ah (v:=(iV ((x:Int)))) h4_0) ?_
  refine Aa rfl (y_rem (p:=(x:Int)) (q:=2) rfl rfl (by omega) (z:=(((x % 2):Nat):Int)) rfl) ?_
  refine Aa rfl (Br (p:=(c:Int)) (q:=(((x % 2):Nat):Int)) rfl rfl (z:=(((c + (x % 2)):Nat):Int)) (Bo (by first | rfl | omega | (push_cast; rfl)) (by omega) (by omega))) ?_
  refine l_A (iV ((((c + (x % 2)):Nat):Int))) rfl rfl ?_
  apply Ac
  apply k8
  refine Ag rfl rfl ?_
  refine Aa rfl (Ah (v:=(iV ((x:Int)))) h4_0) ?_
  refine Aa rfl (y_quo (p:=(x:Int)) (q:=2) rfl rfl (by omega) (z:=(((x / 2):Nat):Int)) (Bo rfl (by omega) (by omega))) ?_
  refine l_A (iV ((((x / 2):Nat):Int))) rfl rfl ?_
  apply Ac
  refine ⟨_,?_,((x / 2)),((c + (x % 2))),rfl,rfl,rfl,rfl,rfl,rfl,(by omega),(by rw [← p4_1,pop8_step (x:=x) (by omega)]; omega),trivial⟩
  omega
 have q7:=of_decide_eq_false b7
 refine Bx ?_
 apply k3
 refine w_q rfl rfl fun K9 k9=>?_
 refine Aa rfl (Ah (v:=(iV ((c:Int)))) h4_3) ?_
 refine l_A (iV ((c:Int))) rfl rfl ?_
 apply Ac
 apply k9
 refine Aq ?_
 refine hret _ _ _ ?_
 refine ⟨rfl,rfl,Eq.trans (b:=(iV ((c:Int)))) rfl ?_⟩
 have hx:x = 0:=by omega
 subst hx
 rw [← p4_1,pop8_0,Nat.add_zero]
end Go.Proofs.YtoefdnbaklajeaaDoor

namespace Go.Proofs.YtoefdnbaklajeaaDoor
open Go
set_option maxRecDepth 100000 in
theorem c_Vast {mn:Bool} {X:Frame→List Frame→Ro→Own→Cy→Prop} {ρ:Ro} {σ:Own} {m:Market} {vm:Value} (rm:Val ρ vm m):CallsH (CX mn X) 16 #[vm] ρ σ (fun w ρ' σ'=>ρ' = ρ∧σ' = σ∧∃ b,w = .bool b):=by
 refine Bh (n:=101) (args:=[vm]) [2] Tryd.func16 rfl rfl rfl rfl fun Q hret hnor=>?_
 refine w_q rfl rfl fun K1 k1=>?_
 refine Ae rfl (Eb (v:=vm) rfl fun k2=>?_)
 refine Bb (a:=m) rm fun ρ2 l2 r2=>?_
 replace rm:=Asa l2 rm
 refine l_A (.bool (false)) rfl rfl ?_
 apply Ac
 apply k1
 refine Ai fun K3 k3=>?_
 refine w_q rfl rfl fun K4 k4=>?_
 refine Ak rfl (Ay Market.f_houses Tryd.underlying26 rfl rfl Hu (by decide) rfl r2) fun v5 r5=>?_
 refine Ak rfl (Ax Hu rfl r5) fun v6 r6=>?_
 have g7:=Val.len r6
 refine Aa rfl (Ce (el:=9) Tryd.underlying22 rfl r6) ?_
 refine Aa rfl (Gk (p:=((m.houses.length:Nat):Int)) (q:=40) rfl rfl) ?_
 refine l_M (.bool (decide (((m.houses.length:Nat):Int) > 40))) rfl rfl ?_
 refine Cn (decide (((m.houses.length:Nat):Int) > 40)) (fun b8=>?_) (fun b8=>?_)
 ·have q8:=of_decide_eq_true b8
  refine Ap (Bl rfl rfl rfl b8) ?_
  refine Ap (Bl rfl rfl rfl b8) ?_
  refine Ap (Bl rfl rfl rfl b8) ?_
  refine Ap (Bl rfl rfl rfl b8) ?_
  refine Aa rfl (Bt rfl b8 (v:=(.bool (true))) rfl) ?_
  refine l_M (.bool (true)) rfl rfl ?_
  refine Ap (Bl rfl rfl rfl rfl) ?_
  refine Ap (Bl rfl rfl rfl rfl) ?_
  refine Ap (Bl rfl rfl rfl rfl) ?_
  refine Ap (Bl rfl rfl rfl rfl) ?_
  refine Aa rfl (Bt rfl rfl (v:=(.bool (true))) rfl) ?_
  refine l_M (.bool (true)) rfl rfl ?_
  refine Ap (Bl rfl rfl rfl rfl) ?_
  refine Ap (Bl rfl rfl rfl rfl) ?_
  refine Ap (Bl rfl rfl rfl rfl) ?_
  refine Ap (Bl rfl rfl rfl rfl) ?_
  refine Aa rfl (Bt rfl rfl (v:=(.bool (true))) rfl) ?_
  apply Ac
  apply k4
  refine Co rfl rfl ?_
  refine w_q rfl rfl fun K9 k9=>?_
  refine l_A (.bool (true)) rfl rfl ?_
  apply Ac
  apply k9
  refine Aj (Arw l2) ?_
  refine Aq ?_
  refine hret _ _ _ ?_
  exact ⟨rfl,rfl,_,rfl⟩
 have q8:=of_decide_eq_false b8
 refine Ak (Ar rfl rfl rfl b8) (Ay Market.f_marks Tryd.underlying26 rfl rfl Hu (by decide) rfl r2) fun v10 r10=>?_
 refine Ak (Ar rfl rfl rfl b8) (Ax Hu rfl r10) fun v11 r11=>?_
 have g12:=Val.len r11
 refine Aa (Ar rfl rfl rfl b8) (Ce (el:=9) Tryd.underlying22 rfl r11) ?_
 refine Aa (Ar rfl rfl rfl b8) (Gk (p:=((m.marks.length:Nat):Int)) (q:=40) rfl rfl) ?_
 refine Aa rfl (Bm rfl b8 (v:=(.bool (decide (((m.marks.length:Nat):Int) > 40)))) rfl) ?_
 refine l_M (.bool (decide (((m.marks.length:Nat):Int) > 40))) rfl rfl ?_
 refine Cn (decide (((m.marks.length:Nat):Int) > 40)) (fun b13=>?_) (fun b13=>?_)
 ·have q13:=of_decide_eq_true b13
  refine Ap (Bl rfl rfl rfl b13) ?_
  refine Ap (Bl rfl rfl rfl b13) ?_
  refine Ap (Bl rfl rfl rfl b13) ?_
  refine Ap (Bl rfl rfl rfl b13) ?_
  refine Aa rfl (Bt rfl b13 (v:=(.bool (true))) rfl) ?_
  refine l_M (.bool (true)) rfl rfl ?_
  refine Ap (Bl rfl rfl rfl rfl) ?_
  refine Ap (Bl rfl rfl rfl rfl) ?_
  refine Ap (Bl rfl rfl rfl rfl) ?_
  refine Ap (Bl rfl rfl rfl rfl) ?_
  refine Aa rfl (Bt rfl rfl (v:=(.bool (true))) rfl) ?_
  apply Ac
  apply k4
  refine Co rfl rfl ?_
  refine w_q rfl rfl fun K14 k14=>?_
  refine l_A (.bool (true)) rfl rfl ?_
  apply Ac
  apply k14
  refine Aj (Arw l2) ?_
  refine Aq ?_
  refine hret _ _ _ ?_
  exact ⟨rfl,rfl,_,rfl⟩
 have q13:=of_decide_eq_false b13
 refine Ak (Ar rfl rfl rfl b13) (Ay Market.f_fields Tryd.underlying26 rfl rfl Se (by decide) rfl r2) fun v15 r15=>?_
 refine Ak (Ar rfl rfl rfl b13) (Ax Se rfl r15) fun v16 r16=>?_
 have g17:=Val.len r16
 refine Aa (Ar rfl rfl rfl b13) (Ce (el:=67) Tryd.underlying23 rfl r16) ?_
 refine Aa (Ar rfl rfl rfl b13) (Gk (p:=((m.fields.length:Nat):Int)) (q:=40) rfl rfl) ?_
 refine Aa rfl (Bm rfl b13 (v:=(.bool (decide (((m.fields.length:Nat):Int) > 40)))) rfl) ?_
 refine l_M (.bool (decide (((m.fields.length:Nat):Int) > 40))) rfl rfl ?_
 refine Cn (decide (((m.fields.length:Nat):Int) > 40)) (fun b18=>?_) (fun b18=>?_)
 ·have q18:=of_decide_eq_true b18
  refine Ap (Bl rfl rfl rfl b18) ?_
  refine Ap (Bl rfl rfl rfl b18) ?_
  refine Ap (Bl rfl rfl rfl b18) ?_
  refine Ap (Bl rfl rfl rfl b18) ?_
  refine Aa rfl (Bt rfl b18 (v:=(.bool (true))) rfl) ?_
  apply Ac
  apply k4
  refine Co rfl rfl ?_
  refine w_q rfl rfl fun K19 k19=>?_
  refine l_A (.bool (true)) rfl rfl ?_
  apply Ac
  apply k19
  refine Aj (Arw l2) ?_
  refine Aq ?_
  refine hret _ _ _ ?_
  exact ⟨rfl,rfl,_,rfl⟩
 have q18:=of_decide_eq_false b18
 refine Ak (Ar rfl rfl rfl b18) (Ay Market.f_sales Tryd.underlying26 rfl rfl Pq (by decide) rfl r2) fun v20 r20=>?_
 refine Ak (Ar rfl rfl rfl b18) (Ax Pq rfl r20) fun v21 r21=>?_
 have g22:=Val.len r21
 refine Aa (Ar rfl rfl rfl b18) (Ce (el:=59) Tryd.underlying24 rfl r21) ?_
 refine Aa (Ar rfl rfl rfl b18) (Gk (p:=((m.sales.length:Nat):Int)) (q:=40) rfl rfl) ?_
 refine Aa rfl (Bm rfl b18 (v:=(.bool (decide (((m.sales.length:Nat):Int) > 40)))) rfl) ?_
 apply Ac
 apply k4
 refine As (t:=decide (((m.sales.length:Nat):Int) > 40)) rfl (fun b23=>?_) (fun b23=>?_)
 ·have q23:=of_decide_eq_true b23
  refine w_q rfl rfl fun K24 k24=>?_
  refine l_A (.bool (true)) rfl rfl ?_
  apply Ac
  apply k24
  refine Aj (Arw l2) ?_
  refine Aq ?_
  refine hret _ _ _ ?_
  exact ⟨rfl,rfl,_,rfl⟩
 have q23:=of_decide_eq_false b23
 refine Al ?_
 apply k3
 refine w_q rfl rfl fun K25 k25=>?_
 refine l_A (iV (0)) rfl rfl ?_
 apply Ac
 apply k25
 refine Ai fun K26 k26=>?_
 refine w_q rfl rfl fun K27 k27=>?_
 refine l_A (iV (0)) rfl rfl ?_
 apply Ac
 apply k27
 refine Ao ?_
 refine Cc (fun mm ee dd ρ' σ'=>∃ (i:Nat) (n:Int),(m.houses.length - i) = mm∧[] = dd∧ρ2 = ρ'∧σ = σ'∧ee 1 = (.pointer (some ⟨k2,0,none⟩))∧ee 3 = (iV (n))∧ee 4 = (iV ((i:Int)))∧(i ≤ m.houses.length)∧True) (m:=_) ⟨0,0,rfl,rfl,rfl,rfl,rfl,rfl,rfl,(Nat.zero_le _),trivial⟩ ?_
 rintro m28 e28 _ _ _ ⟨i,n,rfl,rfl,rfl,rfl,h28_1,h28_3,h28_4,p28_0,_⟩
 refine Ai fun K29 k29=>?_
 refine w_q rfl rfl fun K30 k30=>?_
 refine Aa rfl (Ah (v:=(iV ((i:Int)))) h28_4) ?_
 refine Ak rfl (Ay Market.f_houses Tryd.underlying26 rfl rfl Hu (by decide) h28_1 r2) fun v31 r31=>?_
 refine Ak rfl (Ax Hu rfl r31) fun v32 r32=>?_
 have g33:=Val.len r32
 refine Aa rfl (Ce (el:=9) Tryd.underlying22 rfl r32) ?_
 refine Aa rfl (Da (p:=(i:Int)) (q:=((m.houses.length:Nat):Int)) rfl rfl) ?_
 apply Ac
 apply k30
 refine As (t:=decide ((i:Int) < ((m.houses.length:Nat):Int))) rfl (fun b34=>?_) (fun b34=>?_)
 ·have q34:=of_decide_eq_true b34
  refine Al ?_
  apply k29
  refine Ai fun K35 k35=>?_
  refine Ao ?_
  refine Ag rfl rfl ?_
  refine Aa rfl (Ah (v:=(iV (n))) h28_3) ?_
  refine Ak rfl (Ay Market.f_houses Tryd.underlying26 rfl rfl Hu (by decide) h28_1 r2) fun v36 r36=>?_
  refine Ak rfl (Ax Hu rfl r36) fun v37 r37=>?_
  refine Aa rfl (Ah (v:=(iV ((i:Int)))) h28_4) ?_
  obtain ⟨a39,ha39⟩:=Ed (xs:=m.houses) (i:=i) (by omega)
  refine Ak rfl (Ci i Tryd.underlying22 ty9 rfl r37 (q:=(i:Int)) rfl rfl ha39) fun v38 r38=>?_
  have g40:=At.slen r38
  refine Aa rfl (Oz ty9 rfl r38) ?_
  refine Aa rfl (Afb Tryd.underlying9 (s:=a39) rfl) ?_
  refine Aa rfl (Br (p:=n) (q:=((a39.size:Nat):Int)) rfl rfl (z:=(IntKind.i64.wrap (n + ((a39.size:Nat):Int)))) rfl) ?_
  refine l_A (iV ((IntKind.i64.wrap (n + ((a39.size:Nat):Int))))) rfl rfl ?_
  apply Ac
  apply k35
  refine Ag rfl rfl ?_
  refine Aa rfl (Ah (v:=(iV ((i:Int)))) h28_4) ?_
  refine Aa rfl (Br (p:=(i:Int)) (q:=1) rfl rfl (z:=(((i + 1):Nat):Int)) (Bo (by first | rfl | omega | (push_cast; rfl)) (by omega) (by omega))) ?_
  refine l_A (iV ((((i + 1):Nat):Int))) rfl rfl ?_
  apply Ac
  refine ⟨_,?_,((i + 1)),((IntKind.i64.wrap (n + ((a39.size:Nat):Int)))),rfl,rfl,rfl,rfl,h28_1,rfl,rfl,(by omega),trivial⟩
  omega
 have q34:=of_decide_eq_false b34
 refine Bx ?_
 apply k26
 refine Ai fun K41 k41=>?_
 refine w_q rfl rfl fun K42 k42=>?_
 refine l_A (iV (0)) rfl rfl ?_
 apply Ac
 apply k42
 refine Ao ?_
 refine Cc (fun mm ee dd ρ' σ'=>∃ (i:Nat) (n:Int),(m.marks.length - i) = mm∧[] = dd∧ρ2 = ρ'∧σ = σ'∧ee 1 = (.pointer (some ⟨k2,0,none⟩))∧ee 3 = (iV (n))∧ee 5 = (iV ((i:Int)))∧(i ≤ m.marks.length)∧True) (m:=_) ⟨0,n,rfl,rfl,rfl,rfl,h28_1,h28_3,rfl,(Nat.zero_le _),trivial⟩ ?_
 rintro m43 e43 _ _ _ ⟨i,n,rfl,rfl,rfl,rfl,h43_1,h43_3,h43_5,p43_0,_⟩
 refine Ai fun K44 k44=>?_
 refine w_q rfl rfl fun K45 k45=>?_
 refine Aa rfl (Ah (v:=(iV ((i:Int)))) h43_5) ?_
 refine Ak rfl (Ay Market.f_marks Tryd.underlying26 rfl rfl Hu (by decide) h43_1 r2) fun v46 r46=>?_
 refine Ak rfl (Ax Hu rfl r46) fun v47 r47=>?_
 have g48:=Val.len r47
 refine Aa rfl (Ce (el:=9) Tryd.underlying22 rfl r47) ?_
 refine Aa rfl (Da (p:=(i:Int)) (q:=((m.marks.length:Nat):Int)) rfl rfl) ?_
 apply Ac
 apply k45
 refine As (t:=decide ((i:Int) < ((m.marks.length:Nat):Int))) rfl (fun b49=>?_) (fun b49=>?_)
 ·have q49:=of_decide_eq_true b49
  refine Al ?_
  apply k44
  refine Ai fun K50 k50=>?_
  refine Ao ?_
  refine Ag rfl rfl ?_
  refine Aa rfl (Ah (v:=(iV (n))) h43_3) ?_
  refine Ak rfl (Ay Market.f_marks Tryd.underlying26 rfl rfl Hu (by decide) h43_1 r2) fun v51 r51=>?_
  refine Ak rfl (Ax Hu rfl r51) fun v52 r52=>?_
  refine Aa rfl (Ah (v:=(iV ((i:Int)))) h43_5) ?_
  obtain ⟨a54,ha54⟩:=Ed (xs:=m.marks) (i:=i) (by omega)
  refine Ak rfl (Ci i Tryd.underlying22 ty9 rfl r52 (q:=(i:Int)) rfl rfl ha54) fun v53 r53=>?_
  have g55:=At.slen r53
  refine Aa rfl (Oz ty9 rfl r53) ?_
  refine Aa rfl (Afb Tryd.underlying9 (s:=a54) rfl) ?_
  refine Aa rfl (Br (p:=n) (q:=((a54.size:Nat):Int)) rfl rfl (z:=(IntKind.i64.wrap (n + ((a54.size:Nat):Int)))) rfl) ?_
  refine l_A (iV ((IntKind.i64.wrap (n + ((a54.size:Nat):Int))))) rfl rfl ?_
  apply Ac
  apply k50
  refine Ag rfl rfl ?_
  refine Aa rfl (Ah (v:=(iV ((i:Int)))) h43_5) ?_
  refine Aa rfl (Br (p:=(i:Int)) (q:=1) rfl rfl (z:=(((i + 1):Nat):Int)) (Bo (by first | rfl | omega | (push_cast; rfl)) (by omega) (by omega))) ?_
  refine l_A (iV ((((i + 1):Nat):Int))) rfl rfl ?_
  apply Ac
  refine ⟨_,?_,((i + 1)),((IntKind.i64.wrap (n + ((a54.size:Nat):Int)))),rfl,rfl,rfl,rfl,h43_1,rfl,rfl,(by omega),trivial⟩
  omega
 have q49:=of_decide_eq_false b49
 refine Bx ?_
 apply k41
 refine Ai fun K56 k56=>?_
 refine w_q rfl rfl fun K57 k57=>?_
 refine l_A (iV (0)) rfl rfl ?_
 apply Ac
 apply k57
 refine Ao ?_
 refine Cc (fun mm ee dd ρ' σ'=>∃ (i:Nat) (n:Int),(m.fields.length - i) = mm∧[] = dd∧ρ2 = ρ'∧σ = σ'∧ee 1 = (.pointer (some ⟨k2,0,none⟩))∧ee 3 = (iV (n))∧ee 6 = (iV ((i:Int)))∧(i ≤ m.fields.length)∧True) (m:=_) ⟨0,n,rfl,rfl,rfl,rfl,h43_1,h43_3,rfl,(Nat.zero_le _),trivial⟩ ?_
 rintro m58 e58 _ _ _ ⟨i,n,rfl,rfl,rfl,rfl,h58_1,h58_3,h58_6,p58_0,_⟩
 refine Ai fun K59 k59=>?_
 refine w_q rfl rfl fun K60 k60=>?_
 refine Aa rfl (Ah (v:=(iV ((i:Int)))) h58_6) ?_
 refine Ak rfl (Ay Market.f_fields Tryd.underlying26 rfl rfl Se (by decide) h58_1 r2) fun v61 r61=>?_
 refine Ak rfl (Ax Se rfl r61) fun v62 r62=>?_
 have g63:=Val.len r62
 refine Aa rfl (Ce (el:=67) Tryd.underlying23 rfl r62) ?_
 refine Aa rfl (Da (p:=(i:Int)) (q:=((m.fields.length:Nat):Int)) rfl rfl) ?_
 apply Ac
 apply k60
 refine As (t:=decide ((i:Int) < ((m.fields.length:Nat):Int))) rfl (fun b64=>?_) (fun b64=>?_)
 ·have q64:=of_decide_eq_true b64
  refine Al ?_
  apply k59
  refine Ai fun K65 k65=>?_
  refine Ao ?_
  refine Ai fun K66 k66=>?_
  refine w_q rfl rfl fun K67 k67=>?_
  refine Ak rfl (Ay Market.f_fields Tryd.underlying26 rfl rfl Se (by decide) h58_1 r2) fun v68 r68=>?_
  refine Ak rfl (Ax Se rfl r68) fun v69 r69=>?_
  refine Aa rfl (Ah (v:=(iV ((i:Int)))) h58_6) ?_
  obtain ⟨a71,ha71⟩:=Ed (xs:=m.fields) (i:=i) (by omega)
  refine Ak rfl (Ci i Tryd.underlying23 Ln rfl r69 (q:=(i:Int)) rfl rfl ha71) fun v70 r70=>?_
  refine Ak rfl (Ay FField.f_marks Tryd.underlying67 rfl rfl Ty (by decide) rfl r70) fun v72 r72=>?_
  refine Ak rfl (Ax Ty rfl r72) fun v73 r73=>?_
  have g74:=Val.len r73
  refine Aa rfl (Ce (el:=65) Tryd.underlying27 rfl r73) ?_
  refine Aa rfl (Gk (p:=((a71.marks.length:Nat):Int)) (q:=40) rfl rfl) ?_
  apply Ac
  apply k67
  refine As (t:=decide (((a71.marks.length:Nat):Int) > 40)) rfl (fun b75=>?_) (fun b75=>?_)
  ·have q75:=of_decide_eq_true b75
   refine w_q rfl rfl fun K76 k76=>?_
   refine l_A (.bool (true)) rfl rfl ?_
   apply Ac
   apply k76
   refine Aj (Arw l2) ?_
   refine Aq ?_
   refine hret _ _ _ ?_
   exact ⟨rfl,rfl,_,rfl⟩
  have q75:=of_decide_eq_false b75
  refine Al ?_
  apply k66
  refine Ag rfl rfl ?_
  refine Aa rfl (Ah (v:=(iV (n))) h58_3) ?_
  refine Ak rfl (Ay Market.f_fields Tryd.underlying26 rfl rfl Se (by decide) h58_1 r2) fun v77 r77=>?_
  refine Ak rfl (Ax Se rfl r77) fun v78 r78=>?_
  refine Aa rfl (Ah (v:=(iV ((i:Int)))) h58_6) ?_
  refine Ak rfl (Ci i Tryd.underlying23 Ln rfl r78 (q:=(i:Int)) rfl rfl ha71) fun v79 r79=>?_
  refine Ak rfl (Ay FField.f_name Tryd.underlying67 rfl rfl ty9 (by decide) rfl r79) fun v80 r80=>?_
  have g81:=At.slen r80
  refine Aa rfl (Oz ty9 rfl r80) ?_
  refine Aa rfl (Afb Tryd.underlying9 (s:=a71.name) rfl) ?_
  refine Aa rfl (Br (p:=n) (q:=((a71.name.size:Nat):Int)) rfl rfl (z:=(IntKind.i64.wrap (n + ((a71.name.size:Nat):Int)))) rfl) ?_
  refine l_A (iV ((IntKind.i64.wrap (n + ((a71.name.size:Nat):Int))))) rfl rfl ?_
  apply Ac
  apply k65
  refine Ag rfl rfl ?_
  refine Aa rfl (Ah (v:=(iV ((i:Int)))) h58_6) ?_
  refine Aa rfl (Br (p:=(i:Int)) (q:=1) rfl rfl (z:=(((i + 1):Nat):Int)) (Bo (by first | rfl | omega | (push_cast; rfl)) (by omega) (by omega))) ?_
  refine l_A (iV ((((i + 1):Nat):Int))) rfl rfl ?_
  apply Ac
  refine ⟨_,?_,((i + 1)),((IntKind.i64.wrap (n + ((a71.name.size:Nat):Int)))),rfl,rfl,rfl,rfl,h58_1,rfl,rfl,(by omega),trivial⟩
  omega
 have q64:=of_decide_eq_false b64
 refine Bx ?_
 apply k56
 refine Ai fun K82 k82=>?_
 refine w_q rfl rfl fun K83 k83=>?_
 refine l_A (iV (0)) rfl rfl ?_
 apply Ac
 apply k83
 refine Ao ?_
 refine Cc (fun mm ee dd ρ' σ'=>∃ (i:Nat),(m.sales.length - i) = mm∧[] = dd∧ρ2 = ρ'∧σ = σ'∧ee 1 = (.pointer (some ⟨k2,0,none⟩))∧ee 3 = (iV (n))∧ee 7 = (iV ((i:Int)))∧(i ≤ m.sales.length)∧True) (m:=_) ⟨0,rfl,rfl,rfl,rfl,h58_1,h58_3,rfl,(Nat.zero_le _),trivial⟩ ?_
 rintro m84 e84 _ _ _ ⟨i,rfl,rfl,rfl,rfl,h84_1,h84_3,h84_7,p84_0,_⟩
 refine Ai fun K85 k85=>?_
 refine w_q rfl rfl fun K86 k86=>?_
 refine Aa rfl (Ah (v:=(iV ((i:Int)))) h84_7) ?_
 refine Ak rfl (Ay Market.f_sales Tryd.underlying26 rfl rfl Pq (by decide) h84_1 r2) fun v87 r87=>?_
 refine Ak rfl (Ax Pq rfl r87) fun v88 r88=>?_
 have g89:=Val.len r88
 refine Aa rfl (Ce (el:=59) Tryd.underlying24 rfl r88) ?_
 refine Aa rfl (Da (p:=(i:Int)) (q:=((m.sales.length:Nat):Int)) rfl rfl) ?_
 apply Ac
 apply k86
 refine As (t:=decide ((i:Int) < ((m.sales.length:Nat):Int))) rfl (fun b90=>?_) (fun b90=>?_)
 ·have q90:=of_decide_eq_true b90
  refine Al ?_
  apply k85
  refine Ai fun K91 k91=>?_
  refine Ao ?_
  refine w_q rfl rfl fun K92 k92=>?_
  refine Ak rfl (Ay Market.f_sales Tryd.underlying26 rfl rfl Pq (by decide) h84_1 r2) fun v93 r93=>?_
  refine Ak rfl (Ax Pq rfl r93) fun v94 r94=>?_
  refine Aa rfl (Ah (v:=(iV ((i:Int)))) h84_7) ?_
  obtain ⟨a96,ha96⟩:=Ed (xs:=m.sales) (i:=i) (by omega)
  refine Ak rfl (Ci i Tryd.underlying24 Su rfl r94 (q:=(i:Int)) rfl rfl ha96) fun v95 r95=>?_
  refine Ak rfl (Ay Sale.f_sellers Tryd.underlying59 rfl rfl Vg (by decide) rfl r95) fun v97 r97=>?_
  refine Ak rfl (Ax Vg rfl r97) fun v98 r98=>?_
  have g99:=Val.len r98
  refine Aa rfl (Ce (el:=3) Tryd.underlying30 rfl r98) ?_
  refine Aa rfl (Gk (p:=((a96.sellers.length:Nat):Int)) (q:=40) rfl rfl) ?_
  apply Ac
  apply k92
  refine As (t:=decide (((a96.sellers.length:Nat):Int) > 40)) rfl (fun b100=>?_) (fun b100=>?_)
  ·have q100:=of_decide_eq_true b100
   refine w_q rfl rfl fun K101 k101=>?_
   refine l_A (.bool (true)) rfl rfl ?_
   apply Ac
   apply k101
   refine Aj (Arw l2) ?_
   refine Aq ?_
   refine hret _ _ _ ?_
   exact ⟨rfl,rfl,_,rfl⟩
  have q100:=of_decide_eq_false b100
  refine Al ?_
  apply k91
  refine Ag rfl rfl ?_
  refine Aa rfl (Ah (v:=(iV ((i:Int)))) h84_7) ?_
  refine Aa rfl (Br (p:=(i:Int)) (q:=1) rfl rfl (z:=(((i + 1):Nat):Int)) (Bo (by first | rfl | omega | (push_cast; rfl)) (by omega) (by omega))) ?_
  refine l_A (iV ((((i + 1):Nat):Int))) rfl rfl ?_
  apply Ac
  refine ⟨_,?_,((i + 1)),rfl,rfl,rfl,rfl,h84_1,h84_3,rfl,(by omega),trivial⟩
  omega
 have q90:=of_decide_eq_false b90
 refine Bx ?_
 apply k82
 refine w_q rfl rfl fun K102 k102=>?_
 refine Aa rfl (Ah (v:=(iV (n))) h84_3) ?_
 refine Aa rfl (Gk (p:=n) (q:=1000) rfl rfl) ?_
 refine l_A (.bool (decide (n > 1000))) rfl rfl ?_
 apply Ac
 apply k102
 refine Aj (Arw l2) ?_
 refine Aq ?_
 refine hret _ _ _ ?_
 exact ⟨rfl,rfl,_,rfl⟩
end Go.Proofs.YtoefdnbaklajeaaDoor

namespace Go.Proofs.YtoefdnbaklajeaaDoor
open Go
theorem sooner_total (a b:List Nat):Cr a b∨a = b∨Cr b a:=by
  rcases Nat.lt_trichotomy a.length b.length with h | h | h
  · exact .inl (.inl h)
  · by_cases h1:a < b
    · exact .inl (.inr ⟨h,h1⟩)
    · by_cases h2:b < a
      · exact .inr (.inr (.inr ⟨h.symm,h2⟩))
      · exact .inr (.inl (List.le_antisymm (List.not_lt.1 h2) (List.not_lt.1 h1)))
  · exact .inr (.inr (.inl h))
theorem better_total {f:List Nat→Int} (a b:List Nat):Bv f a b∨a = b∨Bv f b a:=by
  rcases Int.lt_trichotomy (f b) (f a) with h | h | h
  · exact .inl (.inl h)
  · rcases sooner_total a b with h2 | h2 | h2
    · exact .inl (.inr ⟨h.symm,h2⟩)
    · exact .inr (.inl h2)
    · exact .inr (.inr (.inr ⟨h,h2⟩))
  · exact .inr (.inr (.inl h))
theorem IsBest.congr {f:List Nat→Int} {L L':List Nat→Prop} {r:List Nat} (h:IsBest f L r) (hl:∀ x,L x↔L' x):IsBest f L' r:=⟨(hl r).1 h.1,fun x hx=>h.2 x ((hl x).2 hx)⟩
theorem best_is {f:List Nat→Int} (xs:List (List Nat)) (r:List Nat):IsBest f (fun x=>x ∈ r :: xs) (Sv f xs r):=by
  induction xs generalizing r with
  | nil=>exact ⟨by simp [Sv],fun x hx=>.inl (by simpa [Sv] using hx)⟩
  | cons y xs ih =>
    have e1:Sv f (y :: xs) r = Sv f xs (if Bv f y r then y else r):=rfl
    rw [e1]
    obtain ⟨h1,h2⟩:=ih (if Bv f y r then y else r)
    refine ⟨?_,fun x hx=>?_⟩
    · rcases List.mem_cons.1 h1 with e | e
      · rw [e]; split <;> simp
      · exact List.mem_cons_of_mem _ (List.mem_cons_of_mem _ e)
    · have hle:∀ z,(z = y∨z = r)→z = Sv f xs (if Bv f y r then y else r)∨Bv f (Sv f xs (if Bv f y r then y else r)) z:=fun z hz=>by
        have h3:(if Bv f y r then y else r) = z∨Bv f (if Bv f y r then y else r) z:=by
          split
          · rename_i hb
            rcases hz with rfl | rfl
            · exact .inl rfl
            · exact .inr hb
          · rename_i hb
            rcases hz with rfl | rfl
            · rcases better_total (f:=f) z r with h | h | h
              · exact absurd h hb
              · exact .inl h.symm
              · exact .inr h
            · exact .inl rfl
        rcases h3 with h3 | h3
        · rw [← h3]; exact h2 _ (List.mem_cons_self ..)
        · rcases h2 _ (List.mem_cons_self ..) with h4 | h4
          · rw [← h4]; exact .inr h3
          · exact .inr (Wx h4 h3)
      rcases List.mem_cons.1 hx with rfl | hx
      · exact hle _ (.inr rfl)
      · rcases List.mem_cons.1 hx with rfl | hx
        · exact hle _ (.inl rfl)
        · exact h2 x (List.mem_cons_of_mem _ hx)
/-- The other way: in their order,only what is more is taken. -/
def moreF (f:List Nat→Int) (xs:List (List Nat)) (r:List Nat):List Nat:=xs.foldl (fun b x=>if f x > f b then x else b) r
theorem moreF_succ {f:List Nat→Int} {xs:List (List Nat)} {r y:List Nat}:moreF f (xs ++ [y]) r = if f y > f (moreF f xs r) then y else moreF f xs r:=by
  unfold moreF; rw [List.foldl_append]; rfl
theorem more_is {f:List Nat→Int}:∀ (xs:List (List Nat)) (r:List Nat),(r :: xs).Pairwise Cr→IsBest f (fun x=>x ∈ r :: xs) (moreF f xs r)
  | [],r,_=>⟨by simp [moreF],fun x hx=>.inl (by simpa [moreF] using hx)⟩
  | y :: xs,r,hp=>by
    have e1:moreF f (y :: xs) r = moreF f xs (if f y > f r then y else r):=rfl
    rw [e1]
    obtain ⟨hr,hyx⟩:=List.pairwise_cons.1 hp
    obtain ⟨hy,hxs⟩:=List.pairwise_cons.1 hyx
    have hp':((if f y > f r then y else r) :: xs).Pairwise Cr:=by
      split
      · exact hyx
      · exact List.pairwise_cons.2 ⟨fun x hx=>hr x (List.mem_cons_of_mem _ hx),hxs⟩
    obtain ⟨h1,h2⟩:=more_is xs _ hp'
    refine ⟨?_,fun x hx=>?_⟩
    · rcases List.mem_cons.1 h1 with e | e
      · rw [e]; split <;> simp
      · exact List.mem_cons_of_mem _ (List.mem_cons_of_mem _ e)
    · have hle:∀ z,(z = y∨z = r)→z = moreF f xs (if f y > f r then y else r)∨Bv f (moreF f xs (if f y > f r then y else r)) z:=fun z hz=>by
        have h3:(if f y > f r then y else r) = z∨Bv f (if f y > f r then y else r) z:=by
          split
          · rename_i hb
            rcases hz with rfl | rfl
            · exact .inl rfl
            · exact .inr (.inl hb)
          · rename_i hb
            rcases hz with rfl | rfl
            · have hs:=hr z (List.mem_cons_self ..)
              by_cases e:f r = f z
              · exact .inr (.inr ⟨e,hs⟩)
              · exact .inr (.inl (by omega))
            · exact .inl rfl
        rcases h3 with h3 | h3
        · rw [← h3]; exact h2 _ (List.mem_cons_self ..)
        · rcases h2 _ (List.mem_cons_self ..) with h4 | h4
          · rw [← h4]; exact .inr h3
          · exact .inr (Wx h4 h3)
      rcases List.mem_cons.1 hx with rfl | hx
      · exact hle _ (.inr rfl)
      · rcases List.mem_cons.1 hx with rfl | hx
        · exact hle _ (.inl rfl)
        · exact h2 x (List.mem_cons_of_mem _ hx)
def listsN:Nat→Nat→Nat→List (List Nat)
  | 0,_,_=>[[]]
  | k + 1,f,b=>(List.range' f (b - f)).flatMap fun i=>(listsN k (i + 1) b).map (i :: ·)
/-- Ascending lists of numbers from one on,below another one. -/
def asc (f b:Nat):List Nat→Prop
  | []=>True
  | i :: l=>f ≤ i∧i < b∧asc (i + 1) b l
theorem mem_lists:∀ {k f b:Nat} {l:List Nat},l ∈ listsN k f b↔l.length = k∧asc f b l
  | 0,f,b,l=>by
    simp only [listsN,List.mem_singleton]
    constructor
    · rintro rfl; exact ⟨rfl,trivial⟩
    · rintro ⟨h,_⟩; exact List.eq_nil_of_length_eq_zero h
  | k + 1,f,b,l=>by
    simp only [listsN,List.mem_flatMap,List.mem_map,List.mem_range'_1]
    constructor
    · rintro ⟨i,hi,l',hl',rfl⟩
      obtain ⟨h1,h2⟩:=mem_lists.1 hl'
      exact ⟨by simp [h1],by omega,by omega,h2⟩
    · rintro ⟨h1,h2⟩
      cases l with
      | nil=>cases h1
      | cons i l =>
        obtain ⟨h3,h4,h5⟩:=h2
        exact ⟨i,by omega,l,mem_lists.2 ⟨by simpa using h1,h5⟩,rfl⟩
theorem lists_lt:∀ {k f b:Nat},(listsN k f b).Pairwise (· < ·)
  | 0,f,b=>by simp [listsN]
  | k + 1,f,b=>by
    unfold listsN
    rw [List.pairwise_flatMap]
    refine ⟨fun i _=>?_,?_⟩
    · rw [List.pairwise_map]
      exact lists_lt.imp fun h=>List.cons_lt_cons_self.2 h
    · refine List.Pairwise.imp ?_ (List.pairwise_lt_range' (s:=f) (n:=b - f))
      intro i j hij x hx y hy
      obtain ⟨x',_,rfl⟩:=List.mem_map.1 hx
      obtain ⟨y',_,rfl⟩:=List.mem_map.1 hy
      exact List.Lex.rel hij
def allLists (n:Nat):List (List Nat):=(List.range n).flatMap fun k=>listsN (k + 1) 0 n
theorem allLists_sorted (n:Nat):([] :: allLists n).Pairwise Cr:=by
  rw [List.pairwise_cons]
  constructor
  · intro l hl
    obtain ⟨k,_,hk⟩:=List.mem_flatMap.1 hl
    exact .inl (by rw [(mem_lists.1 hk).1]; simp)
  · unfold allLists
    rw [List.pairwise_flatMap]
    refine ⟨fun k _=>?_,?_⟩
    · refine List.Pairwise.imp_of_mem ?_ (lists_lt (k:=k + 1) (f:=0) (b:=n))
      intro a b ha hb hab
      exact .inr ⟨by rw [(mem_lists.1 ha).1,(mem_lists.1 hb).1],hab⟩
    · refine List.Pairwise.imp ?_ (List.pairwise_lt_range (n:=n))
      intro i j hij x hx y hy
      exact .inl (by rw [(mem_lists.1 hx).1,(mem_lists.1 hy).1]; omega)
theorem asc_len:∀ {l:List Nat} {f b:Nat},asc f b l→f ≤ b→l.length ≤ b - f
  | [],_,_,_,_=>by simp
  | i :: l,f,b,⟨h1,h2,h3⟩,_=>by have:=asc_len h3 (by omega); simp only [List.length_cons]; omega
theorem mem_allLists {n:Nat} {l:List Nat}:l ∈ [] :: allLists n↔asc 0 n l:=by
  rw [List.mem_cons]
  constructor
  · rintro (rfl | h)
    · trivial
    · obtain ⟨k,_,hk⟩:=List.mem_flatMap.1 h
      exact (mem_lists.1 hk).2
  · intro h
    cases l with
    | nil=>exact .inl rfl
    | cons i l =>
      have h1:=asc_len h (Nat.zero_le _)
      simp only [List.length_cons] at h1
      exact .inr (List.mem_flatMap.2 ⟨l.length,List.mem_range.2 (by omega),mem_lists.2 ⟨rfl,h⟩⟩)
theorem lists_len:∀ (k f b:Nat),(listsN k f b).length ≤ 2 ^ (b - f)
  | 0,f,b=>by simp only [listsN,List.length_singleton]; exact Nat.one_le_two_pow
  | k + 1,f,b=>by
    have key:∀ n f,f + n = b→((List.range' f n).flatMap fun i=>(listsN k (i + 1) b).map (i :: ·)).length + 1 ≤ 2 ^ n:=by
      intro n
      induction n with
      | zero=>intro f _; simp
      | succ n ih =>
        intro f hf
        rw [List.range'_succ,List.flatMap_cons,List.length_append,List.length_map]
        have h1:=ih (f + 1) (by omega)
        have h2:=lists_len k (f + 1) b
        rw [show b - (f + 1) = n by omega] at h2
        rw [Nat.pow_succ]; omega
    unfold listsN
    rcases Nat.lt_or_ge f b with h | h
    · have:=key (b - f) f (by omega); omega
    · rw [show b - f = 0 by omega]; simp
/-- The lists that bits tell. -/
theorem asc_mono {l:List Nat} {f f' b:Nat} (h:asc f b l) (hf:f' ≤ f):asc f' b l:=by
  cases l with
  | nil=>trivial
  | cons i l=>exact ⟨Nat.le_trans hf h.1,h.2⟩
theorem asc_filter (p:Nat→Bool):∀ (n f:Nat),asc f (f + n) ((List.range' f n).filter p)
  | 0,f=>trivial
  | n + 1,f=>by
    rw [List.range'_succ,List.filter_cons]
    have ih:=asc_filter p n (f + 1)
    rw [show f + 1 + n = f + (n + 1) by omega] at ih
    split
    · exact ⟨Nat.le_refl _,by omega,ih⟩
    · exact asc_mono ih (by omega)
theorem asc_mem {l:List Nat}:∀ {f b:Nat},asc f b l→∀ x ∈ l,f ≤ x∧x < b:=by
  induction l with
  | nil=>intro f b _ x hx; cases hx
  | cons i l ih =>
    intro f b ⟨h1,h2,h3⟩ x hx
    rcases List.mem_cons.1 hx with rfl | hx
    · exact ⟨h1,h2⟩
    · have:=ih h3 x hx; omega
/-- An ascending list is what its own members pick out. -/
theorem filter_asc:∀ (n f:Nat) (l:List Nat),asc f (f + n) l→(List.range' f n).filter (fun x=>l.contains x) = l
  | 0,f,l,h=>by
    cases l with
    | nil=>rfl
    | cons i l=>exact absurd h.2.1 (by have:=h.1; omega)
  | n + 1,f,l,h=>by
    rw [List.range'_succ]
    cases l with
    | nil=>simp
    | cons i l =>
      obtain ⟨h1,h2,h3⟩:=h
      rw [List.filter_cons]
      by_cases e:i = f
      · subst e
        rw [if_pos (by simp)]
        congr 1
        have ih:=filter_asc n (i + 1) l (by rw [show i + 1 + n = i + (n + 1) by omega]; exact h3)
        rw [← ih]
        apply List.filter_congr
        intro x hx
        have hx':=List.mem_range'_1.1 hx
        have:x ≠ i:=by omega
        rw [ih]
        simp [this]
      · rw [if_neg (by
          simp only [List.contains_eq_mem,decide_eq_true_eq]
          intro hm
          rcases List.mem_cons.1 hm with rfl | hm
          · exact e rfl
          · have:=asc_mem h3 f hm; omega)]
        exact filter_asc n (f + 1) (i :: l) (by rw [show f + 1 + n = f + (n + 1) by omega]; exact ⟨by omega,h2,h3⟩)
theorem mem_setLists {n:Nat} {l:List Nat}:l ∈ Yq n↔asc 0 n l:=by
  unfold Yq
  rw [List.mem_map]
  constructor
  · rintro ⟨s,_,rfl⟩
    have:=asc_filter (Gw s) n 0
    rw [Nat.zero_add,← List.range_eq_range'] at this
    exact this
  · intro h
    refine ⟨Bf l,List.mem_range.2 (Sn fun a ha=>(asc_mem h a ha).2),?_⟩
    have h2:=filter_asc n 0 l (by rw [Nat.zero_add]; exact h)
    rw [← List.range_eq_range'] at h2
    rw [← h2]
    congr 1
    funext x
    rw [h2,Pz,Nx]
def bestR (m:Market):List Nat:=moreF (Bq m) (allLists m.sales.length) []
theorem bestL_is (m:Market):IsBest (Bq m) (asc 0 m.sales.length) (Adz m) :=
  (best_is (f:=Bq m) (Yq m.sales.length) []).congr fun x=>by
    rw [List.mem_cons,mem_setLists]
    constructor
    · rintro (rfl | h)
      · trivial
      · exact h
    · exact .inr
theorem best_eq (m:Market):bestR m = Adz m :=
  ((more_is (f:=Bq m) _ _ (allLists_sorted m.sales.length)).congr fun x=>mem_allLists).uniq (bestL_is m)
end Go.Proofs.YtoefdnbaklajeaaDoor

namespace Go.Proofs.YtoefdnbaklajeaaDoor
open Go
def isRow (m:Market) (ss:List Sale) (ks:List Int):List Bool:=(List.range m.houses.length).map fun h=>ss.any (Gp · h) || ks.any (fun x=>x == (h:Int))
theorem isRow_nil {m:Market}:List.replicate m.houses.length false = isRow m [] []:=by
  unfold isRow; simp [List.map_const']
theorem isRow_set {m:Market} {ss:List Sale} {ks:List Int} {x:Int} (h0:0 ≤ x):(isRow m ss ks).set x.toNat true = isRow m ss (ks ++ [x]):=by
  unfold isRow
  apply List.ext_getElem?
  intro i
  rw [List.getElem?_set]
  simp only [List.getElem?_map,List.length_map,List.length_range]
  by_cases hi:i < m.houses.length
  · rw [List.getElem?_range hi]
    by_cases e:x.toNat = i
    · rw [if_pos e,if_pos (by omega)]
      have:x = (i:Int):=by omega
      simp [this]
    · rw [if_neg e]
      have h2:(x == (i:Int)) = false:=beq_eq_false_iff_ne.2 (by omega)
      simp [h2]
  · have:(List.range m.houses.length)[i]? = none:=List.getElem?_eq_none (by simpa using Nat.le_of_not_lt hi)
    rw [this]
    split
    · rw [if_neg (by omega)]; rfl
    · rfl
theorem isRow_done {m:Market} {ss:List Sale} {s:Sale}:isRow m ss s.sellers = isRow m (ss ++ [s]) []:=by
  unfold isRow
  congr 1
  funext h
  simp [List.any_append,Gp]
theorem isRow_get {m:Market} {ss:List Sale} {h:Nat} {b:Bool} (hb:(isRow m ss [])[h]? = some b):b = ss.any (Gp · h):=by
  unfold isRow at hb
  rw [List.getElem?_map] at hb
  obtain ⟨a,ha,rfl⟩:=Option.map_eq_some_iff.1 hb
  have:=(List.getElem?_eq_some_iff.1 ha)
  obtain ⟨h1,h2⟩:=this
  simp only [List.getElem_range] at h2
  subst h2
  simp
/-- Nobody beyond the houses sells. -/
theorem sells_lt {m:Market} (ok:MarketOk m) {s:Sale} (hs:s ∈ m.sales) {h:Nat} (hh:Gp s h = true):h < m.houses.length:=by
  obtain ⟨i,hi⟩:=List.getElem?_of_mem hs
  obtain ⟨x,hx,e⟩:=List.any_eq_true.1 hh
  obtain ⟨k,hk⟩:=List.getElem?_of_mem hx
  have:=(ok.sale i s hi).2.2.1 k x hk
  have e2:x = (h:Int):=eq_of_beq e
  omega
theorem pick_mem {m:Market} {l:List Nat} {s:Sale} (h:s ∈ Iv m l):s ∈ m.sales:=by
  unfold Iv at h
  obtain ⟨a,_,ha⟩:=List.mem_filterMap.1 h
  exact List.mem_of_getElem? ha
theorem over_houses {m:Market} (ok:MarketOk m) {l:List Nat}:Bq m l = ((Iv m l).map Sale.grams).sum - Df m.houses.length (Tu m (Iv m l)):=by
  unfold Bq Tf
  have e:=Agm (n:=m.houses.length) (k:=5) (f:=Tu m (Iv m l)) (Hp ok) fun i h1 _=>by
    unfold Tu
    rw [if_neg]
    intro ha
    obtain ⟨s,hs,hsl⟩:=List.any_eq_true.1 ha
    have:=sells_lt ok (pick_mem hs) hsl
    omega
  rw [← e]; rfl
def intss (l:List (List Nat)):List (List Int):=l.map Bw
theorem intss_length {l:List (List Nat)}:(intss l).length = l.length:=by simp [intss]
theorem intss_get {l:List (List Nat)} {i:Nat} {z:List Int} (h:(intss l)[i]? = some z):∃ a,l[i]? = some a∧z = Bw a:=by
  unfold intss at h
  rw [List.getElem?_map] at h
  obtain ⟨a,ha,rfl⟩:=Option.map_eq_some_iff.1 h
  exact ⟨a,ha,rfl⟩
theorem lists_nil {f b k:Nat} (h:b ≤ f):listsN (k + 1) f b = []:=by unfold listsN; rw [show b - f = 0 by omega]; rfl
/-- The lists that begin with a number below i. -/
def listsTo (k f i b:Nat):List (List Nat):=(List.range' f (i - f)).flatMap fun j=>(listsN k (j + 1) b).map (j :: ·)
theorem listsTo_succ {k f i b:Nat} (h:f ≤ i):listsTo k f (i + 1) b = listsTo k f i b ++ (listsN k (i + 1) b).map (i :: ·):=by
  unfold listsTo
  rw [show i + 1 - f = (i - f) + 1 by omega,List.range'_concat,List.flatMap_append]
  simp [show f + (i - f) = i by omega]
theorem listsTo_end {k f b:Nat}:listsTo k f b b = listsN (k + 1) f b:=rfl
theorem listsTo_len {k f i b:Nat} (h:i ≤ b):(listsTo k f i b).length ≤ 2 ^ (b - f):=by
  have h1:=lists_len (k + 1) f b
  have:(listsTo k f i b).length ≤ (listsTo k f b b).length:=by
    have:∀ d,(listsTo k f i b).length ≤ (listsTo k f (i + d) b).length:=by
      intro d
      induction d with
      | zero=>exact Nat.le_refl _
      | succ d ih =>
        rcases Nat.lt_or_ge (i + d) f with hlt | hge
        · have e1:listsTo k f (i + (d + 1)) b = listsTo k f (i + d) b:=by
            unfold listsTo; rw [show i + (d + 1) - f = i + d - f by omega]
          rw [e1]; exact ih
        · rw [show i + (d + 1) = i + d + 1 by omega,listsTo_succ hge,List.length_append]; omega
    have:=this (b - i)
    rwa [show i + (b - i) = b by omega] at this
  exact Nat.le_trans this h1
theorem lists_small {k f i b:Nat} (hb:b ≤ 8):(i < b→(listsTo k f i b).length ≤ 256)∧(listsN k (i + 1) b).length ≤ 256:=by
  have hp:∀ n,n ≤ 8→2 ^ n ≤ 256:=fun n h=>Nat.pow_le_pow_right (n:=2) (by omega) h
  have h2:=lists_len k (i + 1) b
  have:=hp (b - (i + 1)) (by omega)
  have:=hp (b - f) (by omega)
  exact ⟨fun h=>by have h1:=listsTo_len (k:=k) (f:=f) (i:=i) (b:=b) (by omega); omega,by omega⟩
def lensTo (m:Market) (c:Nat):List (List Nat):=(List.range c).flatMap fun k=>listsN (k + 1) 0 m.sales.length
theorem lensTo_succ {m:Market} {c:Nat}:lensTo m (c + 1) = lensTo m c ++ listsN (c + 1) 0 m.sales.length:=by
  unfold lensTo; rw [List.range_succ,List.flatMap_append]; simp
theorem more_take {f:List Nat→Int} {P L:List (List Nat)} {j:Nat} {a:List Nat} (h:L[j]? = some a):moreF f (P ++ L.take (j + 1)) [] = if f a > f (moreF f (P ++ L.take j) []) then a else moreF f (P ++ L.take j) []:=by
  rw [List.take_add_one,h,← List.append_assoc]
  exact moreF_succ
def prvAt (m:Market) (l:List Int) (i:Nat):Int:=match l[i]? with
  | none=>0
  | some x=>if inR x 0 ((m.sales.length:Int) - 1) then (match (if 0 < i then l[i - 1]? else none) with | some y=>if x ≤ y then 7 else 0 | none=>0) else 6
def provF (m:Market) (l:List Int):Int:=orF (Ch m) (Hq l.length (prvAt m l))
def natL (l:List Int):List Nat:=l.map Int.toNat
def provI (m:Market) (l:List Int):Int:=if provF m l = 0 then Bq m (natL l) else 0
theorem asc_of {l:List Nat} {b:Nat}:∀ {f:Nat},(∀ (i x:Nat),l[i]? = some x→x < b)→(∀ (x:Nat),l[0]? = some x→f ≤ x)→(∀ (i x y:Nat),l[i]? = some x→l[i + 1]? = some y→x < y)→asc f b l:=by
  induction l with
  | nil=>intro f _ _ _; trivial
  | cons a l ih =>
    intro f h1 h2 h3
    refine ⟨h2 a rfl,h1 0 a rfl,ih (fun i x hx=>h1 (i + 1) x (by simpa using hx)) (fun x hx=>h3 0 a x rfl (by simpa using hx)) fun i x y hx hy=>h3 (i + 1) x y (by simpa using hx) (by simpa using hy)⟩
theorem provF_0 {m:Market} {l:List Int} (h:provF m l = 0):Ch m = 0∧l = Bw (natL l)∧asc 0 m.sales.length (natL l):=by
  unfold provF at h
  rw [Jr,Fz] at h
  obtain ⟨h1,h2⟩:=h
  have key:∀ (i:Nat) (x:Int),l[i]? = some x→(0 ≤ x∧x < (m.sales.length:Int))∧∀ (y:Int),(if 0 < i then l[i - 1]? else none) = some y→y < x:=fun i x hx=>by
    have h3:=h2 i (List.getElem?_eq_some_iff.1 hx).1
    simp only [prvAt,hx] at h3
    split at h3
    · rename_i hin
      have:=Ge.1 hin
      refine ⟨by omega,fun y hy=>?_⟩
      rw [hy] at h3
      simp only at h3
      split at h3
      · cases h3
      · omega
    · cases h3
  refine ⟨h1,?_,asc_of (fun i x hx=>?_) (fun x _=>Nat.zero_le _) fun i x y hx hy=>?_⟩
  · unfold Bw natL
    rw [List.map_map]
    apply List.ext_getElem?
    intro i
    rw [List.getElem?_map]
    cases hx:l[i]? with
    | none=>rfl
    | some x=>have:=(key i x hx).1; simp; omega
  · unfold natL at hx
    rw [List.getElem?_map] at hx
    obtain ⟨z,hz,rfl⟩:=Option.map_eq_some_iff.1 hx
    have:=(key i z hz).1; omega
  · unfold natL at hx hy
    rw [List.getElem?_map] at hx hy
    obtain ⟨z,hz,rfl⟩:=Option.map_eq_some_iff.1 hx
    obtain ⟨w,hw,rfl⟩:=Option.map_eq_some_iff.1 hy
    have:=(key (i + 1) w hw).2 z (by simpa using hz)
    have:=(key i z hz).1
    omega
theorem asc_ok {n:Nat} {l:List Nat} (h:asc 0 n l) (hn:n ≤ 8):(∀ a ∈ l,a < n)∧l.length ≤ 40 :=
  ⟨fun a ha=>(asc_mem h a ha).2,by have:=asc_len h (Nat.zero_le _); omega⟩
theorem lists_ok {k n:Nat} {l:List Nat} (h:l ∈ listsN k 0 n) (hn:n ≤ 8):(∀ a ∈ l,a < n)∧l.length ≤ 40:=asc_ok (mem_lists.1 h).2 hn
theorem prv_7 {m:Market} {l:List Int} {i:Nat} {x y:Int} (hx:l[i]? = some x) (hin:inR x 0 ((m.sales.length:Int) - 1) = true) (h0:0 < i) (hy:l[i - 1]? = some y) (hle:x ≤ y):prvAt m l i = 7:=by
  simp only [prvAt,hx,hin,if_true,if_pos h0,hy]; rw [if_pos hle]
theorem prv_0 {m:Market} {l:List Int} {i:Nat} {x:Int} (hx:l[i]? = some x) (hin:inR x 0 ((m.sales.length:Int) - 1) = true) (h:i = 0∨∃ y,l[i - 1]? = some y∧¬ x ≤ y):prvAt m l i = 0:=by
  simp only [prvAt,hx,hin,if_true]
  rcases h with rfl | ⟨y,hy,hle⟩
  · simp
  · by_cases h0:0 < i
    · simp only [if_pos h0,hy]; rw [if_neg hle]
    · rw [if_neg h0]
theorem prv_6 {m:Market} {l:List Int} {i:Nat} {x:Int} (hx:l[i]? = some x) (hin:inR x 0 ((m.sales.length:Int) - 1) = false):prvAt m l i = 6:=by
  simp [prvAt,hx,hin]
end Go.Proofs.YtoefdnbaklajeaaDoor

namespace Go.Proofs.YtoefdnbaklajeaaDoor
open Go
set_option maxRecDepth 100000 in
theorem c_Over {mn:Bool} {X:Frame→List Frame→Ro→Own→Cy→Prop} {ρ:Ro} {σ:Own} {m:Market} {vm vl:Value} {l:List Nat} (rm:Val ρ vm m) (rl:Val ρ vl (Bw l)) (ok:MarketOk m) (hl:∀ a ∈ l,a < m.sales.length) (hn:l.length ≤ 40):CallsH (CX mn X) 96 #[vm,vl] ρ σ (fun w ρ' σ'=>ρ' = ρ∧σ' = σ∧w = (iV (Bq m l))):=by
 have hi2:=Fe (l:=l)
 have hh5:=Hp ok
 refine Bh (n:=63) (args:=[vm,vl]) [4] Tryd.func96 rfl rfl rfl rfl fun Q hret hnor=>?_
 refine w_q rfl rfl fun K1 k1=>?_
 refine Ae rfl (Eb (v:=vm) rfl fun k2=>?_)
 refine Bb (a:=m) rm fun ρ2 l2 r2=>?_
 replace rm:=Asa l2 rm
 replace rl:=Asa l2 rl
 refine l_A (iV (0)) rfl rfl ?_
 apply Ac
 apply k1
 refine w_q rfl rfl fun K3 k3=>?_
 refine l_A (iV (0)) rfl rfl ?_
 apply Ac
 apply k3
 refine w_q rfl rfl fun K4 k4=>?_
 refine Ak rfl (Ay Market.f_houses Tryd.underlying26 rfl rfl Hu (by decide) rfl r2) fun v5 r5=>?_
 refine Ak rfl (Ax Hu rfl r5) fun v6 r6=>?_
 have g7:=Val.len r6
 refine Aa rfl (Ce (el:=9) Tryd.underlying22 rfl r6) ?_
 refine Ae rfl (w_makeBools (n:=m.houses.length) Tryd.underlying190 (Ab Tryd.typeInfo4) rfl (Nat.le_of_ble_eq_true rfl) rfl rfl rfl (by omega) fun k8=>?_)
 refine l_A (.slice (some ⟨k8,0,none⟩) m.houses.length m.houses.length) rfl rfl ?_
 apply Ac
 apply k4
 refine Ai fun K9 k9=>?_
 refine w_q rfl rfl fun K10 k10=>?_
 refine l_A (iV (0)) rfl rfl ?_
 apply Ac
 apply k10
 refine Ao ?_
 refine Cc (fun mm ee dd ρ' σ'=>∃ (i:Nat) (n:Int) (rx11_6:List Bool),((Bw l).length - i) = mm∧[] = dd∧ρ2 = ρ'∧((k8,Res.obj (Obj.cells (rx11_6.map Value.bool).toArray 4 (0,0))) :: σ) = σ'∧ee 1 = vl∧ee 2 = (.pointer (some ⟨k2,0,none⟩))∧ee 5 = (iV (n))∧ee 6 = (.slice (some ⟨k8,0,none⟩) m.houses.length m.houses.length)∧ee 7 = (iV ((i:Int)))∧(i ≤ (Bw l).length)∧(n = ((Iv m (l.take i)).map Sale.grams).sum)∧(0 ≤ n∧n ≤ 1000000 * (i:Int))∧rx11_6 = isRow m (Iv m (l.take i)) []∧rx11_6.length = m.houses.length∧True) (m:=_) ⟨0,0,(List.replicate m.houses.length false),rfl,rfl,rfl,rfl,rfl,rfl,rfl,rfl,rfl,(Nat.zero_le _),(by simp [Iv]),(by omega),(isRow_nil),(List.length_replicate),trivial⟩ ?_
 rintro m11 e11 _ _ _ ⟨i,n,rx11_6,rfl,rfl,rfl,rfl,h11_1,h11_2,h11_5,h11_6,h11_7,p11_0,p11_1,p11_2,RX11_6,RL11_6,_⟩
 refine Ai fun K12 k12=>?_
 refine w_q rfl rfl fun K13 k13=>?_
 refine Aa rfl (Ah (v:=(iV ((i:Int)))) h11_7) ?_
 refine Aa rfl (Ah (v:=vl) h11_1) ?_
 have g14:=Val.len rl
 refine Aa rfl (Ce (el:=3) Tryd.underlying30 rfl rl) ?_
 refine Aa rfl (Da (p:=(i:Int)) (q:=(((Bw l).length:Nat):Int)) rfl rfl) ?_
 apply Ac
 apply k13
 refine As (t:=decide ((i:Int) < (((Bw l).length:Nat):Int))) rfl (fun b15=>?_) (fun b15=>?_)
 ·have q15:=of_decide_eq_true b15
  refine Al ?_
  apply k12
  refine Ai fun K16 k16=>?_
  refine Ao ?_
  refine Ai fun K17 k17=>?_
  refine Dc [0,1,2,3,4,5,6,7,8,9] (by kernel_rfl) rfl rfl ?_
  refine Cd (i:=0) zZ7 rfl (by kernel_rfl) rfl Ary rfl (Ay Market.f_sales Tryd.underlying26 rfl rfl Pq (by decide) h11_2 r2) fun v18 r18=>?_
  refine Cd (i:=1) zZ8 rfl (by kernel_rfl) rfl Ary rfl (Ax Pq rfl r18) fun v19 r19=>?_
  refine Be (i:=2) zZ9 rfl (by kernel_rfl) rfl Ary rfl (Ah (v:=vl) h11_1) ?_
  refine Be (i:=3) Aoz rfl (by kernel_rfl) rfl Ary rfl (Ah (v:=(iV ((i:Int)))) h11_7) ?_
  obtain ⟨a21,ha21⟩:=Ed (xs:=Bw l) (i:=i) (by omega)
  obtain ⟨b22,hb22,hz22⟩:=Uc ha21
  subst hz22
  have hq22:=hl b22 (List.mem_of_getElem? hb22)
  refine Cd (i:=4) Aol rfl (by kernel_rfl) rfl Ary rfl (Ci i Tryd.underlying30 ty3 rfl rl (q:=(i:Int)) rfl rfl ha21) fun v20 r20=>?_
  have ⟨g23a,g23b⟩:=At.rng r20
  refine Be (i:=5) [o1,o1,o1,o1,o1,o1,o0,o0,o0,o0] rfl (by kernel_rfl) rfl Ary rfl (Bc ty3 rfl r20) ?_
  obtain ⟨a25,ha25⟩:=Ed (xs:=m.sales) (i:=b22) (by omega)
  have gs_a25:=ok.sale _ _ ha25
  refine Cd (i:=6) Ajy rfl (by kernel_rfl) rfl Ary rfl (Ci b22 Tryd.underlying24 Su rfl r19 (q:=(b22:Int)) rfl rfl ha25) fun v24 r24=>?_
  refine Cd (i:=7) Aho rfl (by kernel_rfl) rfl Ary rfl (Ax Su rfl r24) fun v26 r26=>?_
  refine Dj (i:=8) Aia rfl (by kernel_rfl) rfl rfl (Ct Aeo fun k27=>⟨Ary,?_⟩)
  refine Fi (i:=9) Aiz rfl (by kernel_rfl) rfl rfl (Du (v:=v26) (a:=a25) (c:=Ags) Su rfl rfl r26 rfl ⟨Ary,?_⟩)
  refine Ec rfl ?_
  apply k17
  refine Ng (a:=a25) r26 fun ρ28 l28 r28=>?_
  replace rl:=Asa l28 rl
  replace r2:=Arv l28 r2
  refine w_q rfl rfl fun K29 k29=>?_
  refine Aa rfl (Ah (v:=(iV (n))) h11_5) ?_
  refine Ak rfl (Ay Sale.f_grams Tryd.underlying59 rfl rfl ty3 (by decide) rfl r28) fun v30 r30=>?_
  have ⟨g31a,g31b⟩:=At.rng r30
  refine Aa rfl (Bc ty3 rfl r30) ?_
  refine Aa rfl (Br (p:=n) (q:=a25.grams) rfl rfl (z:=(n + a25.grams)) (Bo (by rfl) (by omega) (by omega))) ?_
  refine l_A (iV ((n + a25.grams))) rfl rfl ?_
  apply Ac
  apply k29
  refine w_q rfl rfl fun K32 k32=>?_
  refine l_A (iV (0)) rfl rfl ?_
  apply Ac
  apply k32
  refine Ao ?_
  refine Cc (fun mm ee dd ρ' σ'=>∃ (k:Nat) (rx33_6:List Bool),(a25.sellers.length - k) = mm∧[] = dd∧ρ28 = ρ'∧((k8,Res.obj (Obj.cells (rx33_6.map Value.bool).toArray 4 (0,0))) :: σ) = σ'∧ee 1 = vl∧ee 2 = (.pointer (some ⟨k2,0,none⟩))∧ee 5 = (iV ((n + a25.grams)))∧ee 7 = (iV ((i:Int)))∧ee 8 = (.pointer (some ⟨k27,0,none⟩))∧ee 6 = (.slice (some ⟨k8,0,none⟩) m.houses.length m.houses.length)∧ee 9 = (iV ((k:Int)))∧(k ≤ a25.sellers.length)∧rx33_6 = isRow m (Iv m (l.take i)) (a25.sellers.take k)∧rx33_6.length = m.houses.length∧True) (m:=_) ⟨0,rx11_6,rfl,rfl,rfl,rfl,h11_1,h11_2,rfl,h11_7,rfl,h11_6,rfl,(Nat.zero_le _),(RX11_6),RL11_6,trivial⟩ ?_
  rintro m33 e33 _ _ _ ⟨k,rx33_6,rfl,rfl,rfl,rfl,h33_1,h33_2,h33_5,h33_7,h33_8,h33_6,h33_9,p33_0,RX33_6,RL33_6,_⟩
  refine Ai fun K34 k34=>?_
  refine w_q rfl rfl fun K35 k35=>?_
  refine Aa rfl (Ah (v:=(iV ((k:Int)))) h33_9) ?_
  refine Ak rfl (Ay Sale.f_sellers Tryd.underlying59 rfl rfl Vg (by decide) h33_8 r28) fun v36 r36=>?_
  refine Ak rfl (Ax Vg rfl r36) fun v37 r37=>?_
  have g38:=Val.len r37
  refine Aa rfl (Ce (el:=3) Tryd.underlying30 rfl r37) ?_
  refine Aa rfl (Da (p:=(k:Int)) (q:=((a25.sellers.length:Nat):Int)) rfl rfl) ?_
  apply Ac
  apply k35
  refine As (t:=decide ((k:Int) < ((a25.sellers.length:Nat):Int))) rfl (fun b39=>?_) (fun b39=>?_)
  ·have q39:=of_decide_eq_true b39
   refine Al ?_
   apply k34
   refine Ai fun K40 k40=>?_
   refine Ao ?_
   refine Ag rfl rfl ?_
   refine Aa rfl (Ah (v:=(.slice (some ⟨k8,0,none⟩) m.houses.length m.houses.length)) h33_6) ?_
   refine Ak rfl (Ay Sale.f_sellers Tryd.underlying59 rfl rfl Vg (by decide) h33_8 r28) fun v41 r41=>?_
   refine Ak rfl (Ax Vg rfl r41) fun v42 r42=>?_
   refine Aa rfl (Ah (v:=(iV ((k:Int)))) h33_9) ?_
   obtain ⟨a44,ha44⟩:=Ed (xs:=a25.sellers) (i:=k) (by omega)
   have gt_a44:=gs_a25.2.2.1 _ _ ha44
   refine Ak rfl (Ci k Tryd.underlying30 ty3 rfl r42 (q:=(k:Int)) rfl rfl ha44) fun v43 r43=>?_
   have ⟨g45a,g45b⟩:=At.rng r43
   refine Aa rfl (Bc ty3 rfl r43) ?_
   refine Aa rfl (Aed (k':=1) ((a44).toNat) Tryd.underlying190 ⟨_,Ab Tryd.typeInfo4,rfl⟩ rfl (q:=a44) rfl (by omega) (by omega) (off':=((a44).toNat)) (by omega)) ?_
   refine Cx rfl (Zp (j:=0) (f:=Value.bool) (i:=(a44).toNat) (bv:=true) ⟨_,Ab Tryd.typeInfo4,rfl⟩ rfl rfl rfl rfl (by rw [RL33_6]; omega) ?_)
   apply Ac
   apply k40
   refine Ag rfl rfl ?_
   refine Aa rfl (Ah (v:=(iV ((k:Int)))) h33_9) ?_
   refine Aa rfl (Br (p:=(k:Int)) (q:=1) rfl rfl (z:=(((k + 1):Nat):Int)) (Bo (by first | rfl | omega | (push_cast; rfl)) (by omega) (by omega))) ?_
   refine l_A (iV ((((k + 1):Nat):Int))) rfl rfl ?_
   apply Ac
   refine ⟨_,?_,((k + 1)),(rx33_6.set ((a44).toNat) true),rfl,rfl,rfl,rfl,h33_1,h33_2,h33_5,h33_7,h33_8,h33_6,rfl,(by omega),(by rw [RX33_6,isRow_set (by omega),Agl ha44]),(List.length_set.trans RL33_6),trivial⟩
   omega
  have q39:=of_decide_eq_false b39
  refine Bx ?_
  apply k16
  refine Ag rfl rfl ?_
  refine Aa rfl (Ah (v:=(iV ((i:Int)))) h33_7) ?_
  refine Aa rfl (Br (p:=(i:Int)) (q:=1) rfl rfl (z:=(((i + 1):Nat):Int)) (Bo (by first | rfl | omega | (push_cast; rfl)) (by omega) (by omega))) ?_
  refine l_A (iV ((((i + 1):Nat):Int))) rfl rfl ?_
  refine Bj (Arw l28) ?_
  apply Ac
  refine ⟨_,?_,((i + 1)),((n + a25.grams)),rx33_6,rfl,rfl,rfl,rfl,h33_1,h33_2,h33_5,h33_6,rfl,(by omega),(by rw [Vx hb22 ha25,Aft,← p11_1]),(by constructor <;> push_cast <;> omega),(by rw [RX33_6,show k = a25.sellers.length by omega,List.take_length,isRow_done,Vx hb22 ha25]),RL33_6,trivial⟩
  omega
 have q15:=of_decide_eq_false b15
 refine Bx ?_
 apply k9
 refine Ai fun K46 k46=>?_
 refine w_q rfl rfl fun K47 k47=>?_
 refine l_A (iV (0)) rfl rfl ?_
 apply Ac
 apply k47
 refine Ao ?_
 have hd11:Iv m (l.take i) = Iv m l:=by rw [List.take_of_length_le (by omega)]
 refine Cc (fun mm ee dd ρ' σ'=>∃ (h:Nat) (n2:Int),(m.houses.length - h) = mm∧[] = dd∧ρ2 = ρ'∧((k8,Res.obj (Obj.cells (rx11_6.map Value.bool).toArray 4 (0,0))) :: σ) = σ'∧ee 2 = (.pointer (some ⟨k2,0,none⟩))∧ee 6 = (.slice (some ⟨k8,0,none⟩) m.houses.length m.houses.length)∧ee 5 = (iV (n2))∧ee 10 = (iV ((h:Int)))∧(h ≤ m.houses.length)∧(n2 = ((Iv m l).map Sale.grams).sum - Df h (Tu m (Iv m l)))∧(n - 6000000 * (h:Int) ≤ n2∧n2 ≤ n)∧True) (m:=_) ⟨0,n,rfl,rfl,rfl,rfl,h11_2,h11_6,h11_5,rfl,(Nat.zero_le _),(by rw [p11_1,hd11]; simp [Df]),(by omega),trivial⟩ ?_
 rintro m48 e48 _ _ _ ⟨h,n2,rfl,rfl,rfl,rfl,h48_2,h48_6,h48_5,h48_10,p48_0,p48_1,p48_2,_⟩
 refine Ai fun K49 k49=>?_
 refine w_q rfl rfl fun K50 k50=>?_
 refine Aa rfl (Ah (v:=(iV ((h:Int)))) h48_10) ?_
 refine Aa rfl (Ah (v:=(.slice (some ⟨k8,0,none⟩) m.houses.length m.houses.length)) h48_6) ?_
 refine Aa rfl (y_lenS (el:=4) Tryd.underlying190 rfl) ?_
 refine Aa rfl (Da (p:=(h:Int)) (q:=((m.houses.length:Nat):Int)) rfl rfl) ?_
 apply Ac
 apply k50
 refine As (t:=decide ((h:Int) < ((m.houses.length:Nat):Int))) rfl (fun b51=>?_) (fun b51=>?_)
 ·have q51:=of_decide_eq_true b51
  refine Al ?_
  apply k49
  refine Ai fun K52 k52=>?_
  refine Ao ?_
  refine w_q rfl rfl fun K53 k53=>?_
  refine Aa rfl (Ah (v:=(.slice (some ⟨k8,0,none⟩) m.houses.length m.houses.length)) h48_6) ?_
  refine Aa rfl (Ah (v:=(iV ((h:Int)))) h48_10) ?_
  refine Aa rfl (Aed (k':=1) h Tryd.underlying190 ⟨_,Ab Tryd.typeInfo4,rfl⟩ rfl (q:=(h:Int)) rfl rfl (by omega) (off':=h) (by omega)) ?_
  obtain ⟨a54,ha54⟩:=Ed (xs:=rx11_6) (i:=h) (by rw [RL11_6]; omega)
  have he54:a54 = (Iv m l).any (Gp · h):=by rw [RX11_6,hd11] at ha54; exact isRow_get ha54
  have hg54:=Tt ok (h:Int)
  refine Ae rfl (Act (j:=0) (f:=Value.bool) (i:=h) (bv:=a54) ⟨_,Tryd.underlying4,rfl⟩ rfl rfl ha54 ?_)
  apply Ac
  apply k53
  refine As (t:=a54) rfl (fun b55=>?_) (fun b55=>?_)
  ·refine Ag rfl rfl ?_
   refine Aa rfl (Ah (v:=(iV (n2))) h48_5) ?_
   refine Ak rfl (Ax Lj h48_2 r2) fun v56 r56=>?_
   refine Aa rfl (Ah (v:=(iV ((h:Int)))) h48_10) ?_
   refine Ae rfl (Bn (vs:=[v56,(iV ((h:Int)))]) (v:=(iV (Eo m ((h:Int))))) (c_Gives r56 ok) Tryd.func123 rfl rfl ⟨rfl,rfl,trivial⟩ ?_)
   refine Aa rfl (Oq (p:=n2) (q:=Eo m ((h:Int))) rfl rfl (z:=(n2 - Eo m ((h:Int)))) (Bo (by rfl) (by omega) (by omega))) ?_
   refine l_A (iV ((n2 - Eo m ((h:Int))))) rfl rfl ?_
   apply Ac
   apply k52
   refine Ag rfl rfl ?_
   refine Aa rfl (Ah (v:=(iV ((h:Int)))) h48_10) ?_
   refine Aa rfl (Br (p:=(h:Int)) (q:=1) rfl rfl (z:=(((h + 1):Nat):Int)) (Bo (by first | rfl | omega | (push_cast; rfl)) (by omega) (by omega))) ?_
   refine l_A (iV ((((h + 1):Nat):Int))) rfl rfl ?_
   apply Ac
   refine ⟨_,?_,((h + 1)),((n2 - Eo m ((h:Int)))),rfl,rfl,rfl,rfl,h48_2,h48_6,rfl,rfl,(by omega),(by simp only [Df]; rw [show Tu m (Iv m l) h = Eo m (h:Int) from by unfold Tu; rw [← he54,b55]; rfl]; omega),(by constructor <;> push_cast <;> omega),trivial⟩
   omega
  refine Al ?_
  apply k52
  refine Ag rfl rfl ?_
  refine Aa rfl (Ah (v:=(iV ((h:Int)))) h48_10) ?_
  refine Aa rfl (Br (p:=(h:Int)) (q:=1) rfl rfl (z:=(((h + 1):Nat):Int)) (Bo (by first | rfl | omega | (push_cast; rfl)) (by omega) (by omega))) ?_
  refine l_A (iV ((((h + 1):Nat):Int))) rfl rfl ?_
  apply Ac
  refine ⟨_,?_,((h + 1)),(n2),rfl,rfl,rfl,rfl,h48_2,h48_6,h48_5,rfl,(by omega),(by simp only [Df]; rw [show Tu m (Iv m l) h = 0 from by unfold Tu; rw [← he54,b55]; rfl]; omega),(by constructor <;> push_cast <;> omega),trivial⟩
  omega
 have q51:=of_decide_eq_false b51
 refine Bx ?_
 apply k46
 refine w_q rfl rfl fun K57 k57=>?_
 refine Aa rfl (Ah (v:=(iV (n2))) h48_5) ?_
 refine l_A (iV (n2)) rfl rfl ?_
 apply Ac
 apply k57
 refine Aj Ghost.drop ?_
 refine Aj (Arw l2) ?_
 refine Aq ?_
 refine hret _ _ _ ?_
 refine ⟨rfl,rfl,Eq.trans (b:=(iV (n2))) rfl ?_⟩
 rw [over_houses ok,p48_1,show h = m.houses.length by omega]
set_option maxRecDepth 100000 in
theorem c_lists {mn:Bool} {X:Frame→List Frame→Ro→Own→Cy→Prop} {ρ:Ro} {σ:Own} {k f b:Nat} (hk:k ≤ 8) (hb:b ≤ 8) (hf:f ≤ 9):CallsH (CX mn X) 95 #[(iV ((k:Int))),(iV ((f:Int))),(iV ((b:Int)))] ρ σ (fun w ρ' σ'=>Ro.le ρ ρ'∧σ' = σ∧Val ρ' w (intss (listsN k f b):List (List Int))):=by
 induction k using Nat.strongRecOn generalizing f ρ σ
 rename_i k ih
 refine Bh (n:=43) (args:=[(iV ((k:Int))),(iV ((f:Int))),(iV ((b:Int)))]) [6] Tryd.func95 rfl rfl rfl rfl fun Q hret hnor=>?_
 refine w_q rfl rfl fun K1 k1=>?_
 refine l_A (.slice none 0 0) rfl rfl ?_
 apply Ac
 apply k1
 refine Ai fun K2 k2=>?_
 refine w_q rfl rfl fun K3 k3=>?_
 refine l_M (iV ((k:Int))) rfl rfl ?_
 refine Aa rfl (Ek (p:=(k:Int)) (q:=0) rfl rfl) ?_
 apply Ac
 apply k3
 refine As (t:=(k:Int) == 0) rfl (fun b4=>?_) (fun b4=>?_)
 ·have q4:=Jo b4
  refine w_q rfl rfl fun K5 k5=>?_
  refine Ae rfl (Bi (α:=List Int) (xs:=[[]]) (vs:=[(.slice none 0 0)]) Tryd.underlying156 Vg zr30 rfl (by decide) (Dl (os:=[.const (.slice none 0 0)]) ⟨rfl,trivial⟩) ⟨Gx,trivial⟩ rfl (by decide) fun k6 cs6 R6=>?_)
  have G6:Grow ρ 30 (.slice (some ⟨k6,0,none⟩) 1 1) ([[]]:List (List Int)) [(k6,.obj (.cells cs6.toArray 30 (0,0)))]:=Bs R6 rfl (by decide)
  refine l_A (.slice (some ⟨k6,0,none⟩) 1 1) rfl rfl ?_
  apply Ac
  apply k5
  refine Gy G6 fun ρ7 l7 r7=>?_
  refine Aq ?_
  refine hret _ _ _ ?_
  refine ⟨l7,rfl,Aci (v:=(.slice (some ⟨k6,0,none⟩) 1 1)) rfl (Val.cast ?_ r7)⟩
  ·obtain rfl:k = 0:=by omega
   rfl
 have q4:=La b4
 refine Al ?_
 apply k2
 refine w_q rfl rfl fun K8 k8=>?_
 refine l_A (.slice none 0 0) rfl rfl ?_
 apply Ac
 apply k8
 refine Ai fun K9 k9=>?_
 refine w_q rfl rfl fun K10 k10=>?_
 refine l_M (iV ((f:Int))) rfl rfl ?_
 refine l_A (iV ((f:Int))) rfl rfl ?_
 apply Ac
 apply k10
 refine Ao ?_
 refine Cc (fun mm ee dd ρ' σ'=>∃ (i:Nat) (ov11_7:Value) (og11_7:Own),(b - i) = mm∧[] = dd∧Ro.le ρ ρ'∧(og11_7 ++ σ) = σ'∧ee 0 = (iV ((k:Int)))∧ee 2 = (iV ((b:Int)))∧ee 7 = ov11_7∧ee 8 = (iV ((i:Int)))∧(f ≤ i∧(i = f∨i ≤ b))∧Grow ρ' 30 ov11_7 (intss (listsTo (k - 1) f i b)) og11_7∧True) (m:=_) ⟨f,(.slice none 0 0),[],rfl,rfl,Ary,rfl,rfl,rfl,rfl,rfl,(by omega),(Ga (by simp [listsTo,intss]) Hn),trivial⟩ ?_
 rintro m11 e11 _ ρ11 _ ⟨i,ov11_7,og11_7,rfl,rfl,l11,rfl,h11_0,h11_2,h11_7,h11_8,p11_0,OG11_7,_⟩
 refine Ai fun K12 k12=>?_
 refine w_q rfl rfl fun K13 k13=>?_
 refine Aa rfl (Ah (v:=(iV ((i:Int)))) h11_8) ?_
 refine Aa rfl (Ah (v:=(iV ((b:Int)))) h11_2) ?_
 refine Aa rfl (Da (p:=(i:Int)) (q:=(b:Int)) rfl rfl) ?_
 apply Ac
 apply k13
 refine As (t:=decide ((i:Int) < (b:Int))) rfl (fun b14=>?_) (fun b14=>?_)
 ·have q14:=of_decide_eq_true b14
  refine Al ?_
  apply k12
  refine Ai fun K15 k15=>?_
  refine Ao ?_
  refine w_q rfl rfl fun K16 k16=>?_
  refine Aa rfl (Ah (v:=(iV ((k:Int)))) h11_0) ?_
  refine Aa rfl (Oq (p:=(k:Int)) (q:=1) rfl rfl (z:=(((k - 1):Nat):Int)) (Bo (by omega) (by omega) (by omega))) ?_
  refine Aa rfl (Ah (v:=(iV ((i:Int)))) h11_8) ?_
  refine Aa rfl (Br (p:=(i:Int)) (q:=1) rfl rfl (z:=(((i + 1):Nat):Int)) (Bo (by first | rfl | omega | (push_cast; rfl)) (by omega) (by omega))) ?_
  refine Aa rfl (Ah (v:=(iV ((b:Int)))) h11_2) ?_
  refine Ae rfl (Cm (vs:=[(iV ((((k - 1):Nat):Int))),(iV ((((i + 1):Nat):Int))),(iV ((b:Int)))]) (ih ((k - 1)) (by omega) (by omega) (by omega)) Tryd.func95 rfl rfl ⟨rfl,rfl,rfl,trivial⟩ fun v17 ρ17 σ17 hc17=>?_)
  obtain ⟨l17,s17,r17⟩:=hc17
  replace s17:=s17.symm; subst s17
  replace OG11_7:=Grow.mono l17 OG11_7
  refine l_A v17 rfl rfl ?_
  apply Ac
  apply k16
  refine w_q rfl rfl fun K18 k18=>?_
  refine l_A (iV (0)) rfl rfl ?_
  apply Ac
  apply k18
  refine Ao ?_
  refine Cc (fun mm ee dd ρ' σ'=>∃ (j:Nat) (ov19_7:Value) (og19_7:Own),((intss (listsN (k - 1) (i + 1) b)).length - j) = mm∧[] = dd∧Ro.le ρ17 ρ'∧(og19_7 ++ σ) = σ'∧ee 0 = (iV ((k:Int)))∧ee 2 = (iV ((b:Int)))∧ee 8 = (iV ((i:Int)))∧ee 9 = v17∧ee 7 = ov19_7∧ee 10 = (iV ((j:Int)))∧(j ≤ (intss (listsN (k - 1) (i + 1) b)).length)∧Grow ρ' 30 ov19_7 (intss (listsTo (k - 1) f i b ++ ((listsN (k - 1) (i + 1) b).take j).map (i :: ·))) og19_7∧True) (m:=_) ⟨0,ov11_7,og11_7,rfl,rfl,Ary,rfl,h11_0,h11_2,h11_8,rfl,h11_7,rfl,(Nat.zero_le _),(Ga (by simp) OG11_7),trivial⟩ ?_
  rintro m19 e19 _ ρ19 _ ⟨j,ov19_7,og19_7,rfl,rfl,l19,rfl,h19_0,h19_2,h19_8,h19_9,h19_7,h19_10,p19_0,OG19_7,_⟩
  replace r17:=Asa l19 r17
  refine Ai fun K20 k20=>?_
  refine w_q rfl rfl fun K21 k21=>?_
  refine Aa rfl (Ah (v:=(iV ((j:Int)))) h19_10) ?_
  refine Aa rfl (Ah (v:=v17) h19_9) ?_
  have g22:=Val.len r17
  refine Aa rfl (Ce (el:=30) Tryd.underlying156 rfl r17) ?_
  refine Aa rfl (Da (p:=(j:Int)) (q:=(((intss (listsN ((k - 1)) ((i + 1)) b)).length:Nat):Int)) rfl rfl) ?_
  apply Ac
  apply k21
  refine As (t:=decide ((j:Int) < (((intss (listsN ((k - 1)) ((i + 1)) b)).length:Nat):Int))) rfl (fun b23=>?_) (fun b23=>?_)
  ·have q23:=of_decide_eq_true b23
   refine Al ?_
   apply k20
   refine Ai fun K24 k24=>?_
   refine Ao ?_
   refine Ag rfl rfl ?_
   refine Aa rfl (Ah (v:=ov19_7) h19_7) ?_
   refine Aa rfl (Ah (v:=(iV ((i:Int)))) h19_8) ?_
   refine Ae rfl (Bi (α:=Int) (xs:=[(i:Int)]) (vs:=[(iV ((i:Int)))]) Tryd.underlying30 ty3 zr3 rfl (by decide) (Dl (os:=[.tmp 33]) ⟨rfl,trivial⟩) ⟨(Cv.2 ⟨rfl,by constructor <;> omega⟩),trivial⟩ rfl (by decide) fun k25 cs25 R25=>?_)
   have G25:Grow ρ19 3 (.slice (some ⟨k25,0,none⟩) 1 1) ([(i:Int)]:List Int) [(k25,.obj (.cells cs25.toArray 3 (0,0)))]:=Bs R25 rfl (by decide)
   refine Aa rfl (Ah (v:=v17) h19_9) ?_
   refine Aa rfl (Ah (v:=(iV ((j:Int)))) h19_10) ?_
   obtain ⟨a27,ha27⟩:=Ed (xs:=intss (listsN ((k - 1)) ((i + 1)) b)) (i:=j) (by omega)
   obtain ⟨b28,hb28,hz28⟩:=intss_get ha27
   subst hz28
   have hq28:=(mem_lists.1 (List.mem_of_getElem? hb28)).1
   have hr28:=Fe (l:=b28)
   refine Ak rfl (Ci j Tryd.underlying156 Vg rfl r17 (q:=(j:Int)) rfl rfl ha27) fun v26 r26=>?_
   refine Ak rfl (Ax Vg rfl r26) fun v29 r29=>?_
   refine Ae rfl (Fx (σ:=(og19_7 ++ σ)) (gr:=[(k25,.obj (.cells cs25.toArray 3 (0,0)))]) (xs:=([(i:Int)]:List Int)) (ys:=(Bw b28)) Tryd.underlying30 Tryd.underlying30 (Ab Tryd.typeInfo3) rfl (Nat.le_of_ble_eq_true rfl) rfl rfl rfl rfl G25 r29 (by simp only [intss_length,Fe,List.length_append,List.length_cons,List.length_nil,List.length_map,List.length_take] at *; first | omega | (have hs1:=(lists_small (k:=k - 1) (f:=f) (i:=i) hb).1; have hs2:=(lists_small (k:=k - 1) (f:=f) (i:=i) hb).2; omega)) fun v30 gr30 G30=>?_)
   refine Ca G30 fun ρ32 l32 r32=>?_
   replace r17:=Asa l32 r17
   replace OG19_7:=Grow.mono l32 OG19_7
   replace r26:=Arv l32 r26
   replace r29:=Asa l32 r29
   refine Ae rfl (Bi (α:=List Int) (xs:=[(([(i:Int)]:List Int) ++ (Bw b28))]) (vs:=[v30]) Tryd.underlying156 Vg zr30 rfl (by decide) (Dl (os:=[.tmp 39]) ⟨rfl,trivial⟩) ⟨r32,trivial⟩ rfl (by decide) fun k31 cs31 R31=>?_)
   have G31:Grow ρ32 30 (.slice (some ⟨k31,0,none⟩) 1 1) ([(([(i:Int)]:List Int) ++ (Bw b28))]:List (List Int)) [(k31,.obj (.cells cs31.toArray 30 (0,0)))]:=Bs R31 rfl (by decide)
   refine Ca G31 fun ρ34 l34 r34=>?_
   replace r17:=Asa l34 r17
   replace OG19_7:=Grow.mono l34 OG19_7
   replace r26:=Arv l34 r26
   replace r29:=Asa l34 r29
   replace r32:=Asa l34 r32
   refine Ae rfl (Fx (σ:=σ) (gr:=og19_7) (xs:=intss (listsTo (k - 1) f i b ++ ((listsN (k - 1) (i + 1) b).take j).map (i :: ·))) (ys:=([(([(i:Int)]:List Int) ++ (Bw b28))]:List (List Int))) Tryd.underlying156 Tryd.underlying156 (Ab Tryd.typeInfo30) rfl (Nat.le_of_ble_eq_true rfl) rfl rfl rfl rfl OG19_7 r34 (by simp only [intss_length,Fe,List.length_append,List.length_cons,List.length_nil,List.length_map,List.length_take] at *; first | omega | (have hs1:=(lists_small (k:=k - 1) (f:=f) (i:=i) hb).1; have hs2:=(lists_small (k:=k - 1) (f:=f) (i:=i) hb).2; omega)) fun v33 gr33 G33=>?_)
   refine l_A v33 rfl rfl ?_
   apply Ac
   apply k24
   refine Ag rfl rfl ?_
   refine Aa rfl (Ah (v:=(iV ((j:Int)))) h19_10) ?_
   refine Aa rfl (Br (p:=(j:Int)) (q:=1) rfl rfl (z:=(((j + 1):Nat):Int)) (Bo (by first | rfl | omega | (push_cast; rfl)) (by omega) (by omega))) ?_
   refine l_A (iV ((((j + 1):Nat):Int))) rfl rfl ?_
   apply Ac
   refine ⟨_,?_,((j + 1)),v33,gr33,rfl,rfl,(Arz (Arz l19 l32) l34),rfl,h19_0,h19_2,h19_8,h19_9,rfl,rfl,(by omega),(Ga (by rw [Tm hb28,← List.append_assoc]; simp [intss,Bw]) G33),trivial⟩
   omega
  have q23:=of_decide_eq_false b23
  refine Bx ?_
  apply k15
  refine Ag rfl rfl ?_
  refine Aa rfl (Ah (v:=(iV ((i:Int)))) h19_8) ?_
  refine Aa rfl (Br (p:=(i:Int)) (q:=1) rfl rfl (z:=(((i + 1):Nat):Int)) (Bo (by first | rfl | omega | (push_cast; rfl)) (by omega) (by omega))) ?_
  refine l_A (iV ((((i + 1):Nat):Int))) rfl rfl ?_
  apply Ac
  refine ⟨_,?_,((i + 1)),ov19_7,og19_7,rfl,rfl,(Arz (Arz l11 l17) l19),rfl,h19_0,h19_2,h19_7,rfl,(by omega),(Ga (by rw [listsTo_succ (by omega),show j = (intss (listsN (k - 1) (i + 1) b)).length by omega,intss_length,List.take_length]) OG19_7),trivial⟩
  omega
 have q14:=of_decide_eq_false b14
 refine Bx ?_
 apply k9
 refine w_q rfl rfl fun K35 k35=>?_
 refine Aa rfl (Ah (v:=ov11_7) h11_7) ?_
 refine l_A ov11_7 rfl rfl ?_
 apply Ac
 apply k35
 refine Gy OG11_7 fun ρ36 l36 r36=>?_
 refine Aq ?_
 refine hret _ _ _ ?_
 refine ⟨(Arz l11 l36),rfl,Aci (v:=ov11_7) rfl (Val.cast ?_ r36)⟩
 ·obtain ⟨k1,rfl⟩:∃ k1,k = k1 + 1:=⟨k - 1,by omega⟩
  simp only [Nat.add_sub_cancel]
  rcases Nat.lt_or_ge f b with hlt | hge
  ·rw [show i = b by omega,listsTo_end]
  ·rw [lists_nil hge,show i = f by omega]; simp [listsTo]
set_option maxRecDepth 100000 in
theorem c_refExcess {mn:Bool} {X:Frame→List Frame→Ro→Own→Cy→Prop} {ρ:Ro} {σ:Own} {m:Market} {vm:Value} (rm:Val ρ vm m):CallsH (CX mn X) 42 #[vm] ρ σ (fun w ρ' σ'=>Ro.le ρ ρ'∧σ' = σ∧∃ v0,w = (.tuple #[(iV (Aik m)),v0,(iV (Ch m))])∧Val ρ' v0 (Aje m:List Int)):=by
 refine Bh (n:=51) (args:=[vm]) [2,3,4] Tryd.func42 rfl rfl rfl rfl fun Q hret hnor=>?_
 refine w_q rfl rfl fun K1 k1=>?_
 refine Ae rfl (Eb (v:=vm) rfl fun k2=>?_)
 refine Bb (a:=m) rm fun ρ2 l2 r2=>?_
 replace rm:=Asa l2 rm
 refine l_A (iV (0)) rfl rfl ?_
 refine l_A (.slice none 0 0) rfl rfl ?_
 refine l_A (iV (0)) rfl rfl ?_
 apply Ac
 apply k1
 refine Ai fun K3 k3=>?_
 refine w_q rfl rfl fun K4 k4=>?_
 refine Ak rfl (Ax Lj rfl r2) fun v5 r5=>?_
 refine Ae rfl (Bn (vs:=[v5]) (v:=(iV (Ch m))) (c_CheckMarket r5) Tryd.func28 rfl rfl ⟨rfl,trivial⟩ ?_)
 refine l_A (iV (Ch m)) rfl rfl ?_
 apply Ac
 apply k4
 refine w_q rfl rfl fun K6 k6=>?_
 refine l_M (iV (Ch m)) rfl rfl ?_
 refine Aa rfl (Dg (p:=Ch m) (q:=0) rfl rfl) ?_
 apply Ac
 apply k6
 refine As (t:=Ch m != 0) rfl (fun b7=>?_) (fun b7=>?_)
 ·have q7:=Mb b7
  refine w_q rfl rfl fun K8 k8=>?_
  refine l_M (iV (Ch m)) rfl rfl ?_
  refine l_A (iV (0)) rfl rfl ?_
  refine l_A (.slice none 0 0) rfl rfl ?_
  refine l_A (iV (Ch m)) rfl rfl ?_
  apply Ac
  apply k8
  refine Aq ?_
  refine hret _ _ _ ?_
  refine ⟨l2,rfl,(.slice none 0 0),Eq.trans (b:=(.tuple #[(iV (0)),(.slice none 0 0),(iV (Ch m))])) (Mk (r:=2) (r':=3) (rs:=[4]) (v:=(iV (0))) (v':=(.slice none 0 0)) (vs:=[(iV (Ch m))]) ⟨rfl,rfl,rfl,trivial⟩) ?_,Val.cast ?_ Gx⟩
  ·rw [Aik,if_neg q7]
  ·rw [Aje,if_neg q7]
 have q7:=Jh b7
 refine Al ?_
 apply k3
 refine w_q rfl rfl fun K9 k9=>?_
 refine l_A (iV (0)) rfl rfl ?_
 apply Ac
 apply k9
 refine w_q rfl rfl fun K10 k10=>?_
 refine l_A (.slice none 0 0) rfl rfl ?_
 apply Ac
 apply k10
 refine Ai fun K11 k11=>?_
 refine w_q rfl rfl fun K12 k12=>?_
 refine l_A (iV (1)) rfl rfl ?_
 apply Ac
 apply k12
 refine Ao ?_
 have ok:=Qv q7
 have hn8:=ok.nsales
 refine Cc (fun mm ee dd ρ' σ'=>∃ (c:Nat) (g:Int) (vv13_7:Value),(m.sales.length - c) = mm∧[] = dd∧Ro.le ρ2 ρ'∧σ = σ'∧ee 1 = (.pointer (some ⟨k2,0,none⟩))∧ee 6 = (iV (g))∧ee 7 = vv13_7∧ee 8 = (iV ((((c + 1):Nat):Int)))∧(c ≤ m.sales.length)∧(g = Bq m (moreF (Bq m) (lensTo m c) []))∧Val ρ' vv13_7 (Bw (moreF (Bq m) (lensTo m c) []):List Int)∧True) (m:=_) ⟨0,0,(.slice none 0 0),rfl,rfl,Ary,rfl,rfl,rfl,rfl,rfl,(Nat.zero_le _),(Qy (by exact ok)).symm,(Val.cast (rfl) Gx),trivial⟩ ?_
 rintro m13 e13 _ ρ13 _ ⟨c,g,vv13_7,rfl,rfl,l13,rfl,h13_1,h13_6,h13_7,h13_8,p13_0,p13_1,VV13_7,_⟩
 replace r2:=Arv l13 r2
 refine Ai fun K14 k14=>?_
 refine w_q rfl rfl fun K15 k15=>?_
 refine Aa rfl (Ah (v:=(iV ((((c + 1):Nat):Int)))) h13_8) ?_
 refine Ak rfl (Ay Market.f_sales Tryd.underlying26 rfl rfl Pq (by decide) h13_1 r2) fun v16 r16=>?_
 refine Ak rfl (Ax Pq rfl r16) fun v17 r17=>?_
 have g18:=Val.len r17
 refine Aa rfl (Ce (el:=59) Tryd.underlying24 rfl r17) ?_
 refine Aa rfl (Tx (p:=(((c + 1):Nat):Int)) (q:=((m.sales.length:Nat):Int)) rfl rfl) ?_
 apply Ac
 apply k15
 refine As (t:=decide ((((c + 1):Nat):Int) ≤ ((m.sales.length:Nat):Int))) rfl (fun b19=>?_) (fun b19=>?_)
 ·have q19:=of_decide_eq_true b19
  refine Al ?_
  apply k14
  refine Ai fun K20 k20=>?_
  refine Ao ?_
  refine w_q rfl rfl fun K21 k21=>?_
  refine Aa rfl (Ah (v:=(iV ((((c + 1):Nat):Int)))) h13_8) ?_
  refine Ak rfl (Ay Market.f_sales Tryd.underlying26 rfl rfl Pq (by decide) h13_1 r2) fun v22 r22=>?_
  refine Ak rfl (Ax Pq rfl r22) fun v23 r23=>?_
  have g24:=Val.len r23
  refine Aa rfl (Ce (el:=59) Tryd.underlying24 rfl r23) ?_
  refine Ae rfl (Cm (vs:=[(iV ((((c + 1):Nat):Int))),(iV (0)),(iV (((m.sales.length:Nat):Int)))]) (c_lists (k:=((c + 1))) (f:=0) (b:=m.sales.length) (by omega) (by omega) (by omega)) Tryd.func95 rfl rfl ⟨rfl,rfl,rfl,trivial⟩ fun v25 ρ25 σ25 hc25=>?_)
  obtain ⟨l25,s25,r25⟩:=hc25
  replace s25:=s25.symm; subst s25
  replace r2:=Arv l25 r2
  replace VV13_7:=Asa l25 VV13_7
  replace r22:=Arv l25 r22
  replace r23:=Asa l25 r23
  refine l_A v25 rfl rfl ?_
  apply Ac
  apply k21
  refine w_q rfl rfl fun K26 k26=>?_
  refine l_A (iV (0)) rfl rfl ?_
  apply Ac
  apply k26
  refine Ao ?_
  refine Cc (fun mm ee dd ρ' σ'=>∃ (j:Nat) (g2:Int) (vv27_7:Value),((intss (listsN (c + 1) 0 m.sales.length)).length - j) = mm∧[] = dd∧Ro.le ρ25 ρ'∧σ = σ'∧ee 1 = (.pointer (some ⟨k2,0,none⟩))∧ee 8 = (iV ((((c + 1):Nat):Int)))∧ee 9 = v25∧ee 6 = (iV (g2))∧ee 7 = vv27_7∧ee 10 = (iV ((j:Int)))∧(j ≤ (intss (listsN (c + 1) 0 m.sales.length)).length)∧(g2 = Bq m (moreF (Bq m) (lensTo m c ++ (listsN (c + 1) 0 m.sales.length).take j) []))∧Val ρ' vv27_7 (Bw (moreF (Bq m) (lensTo m c ++ (listsN (c + 1) 0 m.sales.length).take j) []):List Int)∧True) (m:=_) ⟨0,g,vv13_7,rfl,rfl,Ary,rfl,h13_1,h13_8,rfl,h13_6,h13_7,rfl,(Nat.zero_le _),(by rw [p13_1]; simp),(Val.cast (by simp) VV13_7),trivial⟩ ?_
  rintro m27 e27 _ ρ27 _ ⟨j,g2,vv27_7,rfl,rfl,l27,rfl,h27_1,h27_8,h27_9,h27_6,h27_7,h27_10,p27_0,p27_1,VV27_7,_⟩
  replace r2:=Arv l27 r2
  replace r25:=Asa l27 r25
  refine Ai fun K28 k28=>?_
  refine w_q rfl rfl fun K29 k29=>?_
  refine Aa rfl (Ah (v:=(iV ((j:Int)))) h27_10) ?_
  refine Aa rfl (Ah (v:=v25) h27_9) ?_
  have g30:=Val.len r25
  refine Aa rfl (Ce (el:=30) Tryd.underlying156 rfl r25) ?_
  refine Aa rfl (Da (p:=(j:Int)) (q:=(((intss (listsN ((c + 1)) 0 m.sales.length)).length:Nat):Int)) rfl rfl) ?_
  apply Ac
  apply k29
  refine As (t:=decide ((j:Int) < (((intss (listsN ((c + 1)) 0 m.sales.length)).length:Nat):Int))) rfl (fun b31=>?_) (fun b31=>?_)
  ·have q31:=of_decide_eq_true b31
   refine Al ?_
   apply k28
   refine Ai fun K32 k32=>?_
   refine Ao ?_
   refine Ai fun K33 k33=>?_
   refine Dc [0,1,2,3,4,5,6] (by kernel_rfl) rfl rfl ?_
   refine Cd (i:=0) Amw rfl (by kernel_rfl) rfl Ary rfl (Ax Lj h27_1 r2) fun v34 r34=>?_
   refine Be (i:=1) [o1,o1,o0,o0,o0,o0,o0] rfl (by kernel_rfl) rfl Ary rfl (Ah (v:=v25) h27_9) ?_
   refine Bg (i:=2) [o1,o1,o1,o0,o0,o0,o0] rfl (by kernel_rfl) rfl Ary rfl (Ah (v:=(iV ((j:Int)))) h27_10) ?_
   obtain ⟨a36,ha36⟩:=Ed (xs:=intss (listsN ((c + 1)) 0 m.sales.length)) (i:=j) (by omega)
   obtain ⟨b37,hb37,hz37⟩:=intss_get ha36
   subst hz37
   have hq37:=lists_ok (List.mem_of_getElem? hb37) (Qv q7).nsales
   refine Hl (i:=3) Aph rfl (by kernel_rfl) rfl Ary rfl (Ci j Tryd.underlying156 Vg rfl r25 (q:=(j:Int)) rfl rfl ha36) fun v35 r35=>?_
   refine Hl (i:=4) Aog rfl (by kernel_rfl) rfl Ary rfl (Ax Vg rfl r35) fun v38 r38=>?_
   refine Dj (i:=5) Aoi rfl (by kernel_rfl) rfl rfl (Bn (vs:=[v34,v38]) (v:=(iV (Bq m b37))) (c_Over (l:=b37) r34 r38 ok hq37.1 hq37.2) Tryd.func96 rfl rfl ⟨rfl,rfl,trivial⟩ ⟨Ary,?_⟩)
   refine Bg (i:=6) Amx rfl (by kernel_rfl) rfl Ary rfl (Cp (v:=(iV (Bq m b37))) rfl) ?_
   refine Ec rfl ?_
   apply k33
   refine w_q rfl rfl fun K39 k39=>?_
   refine l_M (iV (Bq m b37)) rfl rfl ?_
   refine Aa rfl (Ah (v:=(iV (g2))) h27_6) ?_
   refine Aa rfl (Gk (p:=Bq m b37) (q:=g2) rfl rfl) ?_
   apply Ac
   apply k39
   refine As (t:=decide (Bq m b37 > g2)) rfl (fun b40=>?_) (fun b40=>?_)
   ·have q40:=of_decide_eq_true b40
    refine Dc [0,1,2,3,4,5,6] (by kernel_rfl) rfl rfl ?_
    refine Be (i:=0) Amw rfl (by kernel_rfl) rfl Ary rfl (Ah (v:=(iV (Bq m b37))) rfl) ?_
    refine Be (i:=1) [o1,o1,o0,o0,o0,o0,o0] rfl (by kernel_rfl) rfl Ary rfl (Ah (v:=v25) h27_9) ?_
    refine Be (i:=2) [o1,o1,o1,o0,o0,o0,o0] rfl (by kernel_rfl) rfl Ary rfl (Ah (v:=(iV ((j:Int)))) h27_10) ?_
    refine Cd (i:=3) Aph rfl (by kernel_rfl) rfl Ary rfl (Ci j Tryd.underlying156 Vg rfl r25 (q:=(j:Int)) rfl rfl ha36) fun v41 r41=>?_
    refine Cd (i:=4) Aog rfl (by kernel_rfl) rfl Ary rfl (Ax Vg rfl r41) fun v42 r42=>?_
    refine Bg (i:=5) Aoi rfl (by kernel_rfl) rfl Ary rfl (Cp (v:=(iV (Bq m b37))) rfl) ?_
    refine Bg (i:=6) Amx rfl (by kernel_rfl) rfl Ary rfl (Cp (v:=v42) rfl) ?_
    refine Ec rfl ?_
    apply k32
    refine Ag rfl rfl ?_
    refine Aa rfl (Ah (v:=(iV ((j:Int)))) h27_10) ?_
    refine Aa rfl (Br (p:=(j:Int)) (q:=1) rfl rfl (z:=(((j + 1):Nat):Int)) (Bo (by first | rfl | omega | (push_cast; rfl)) (by omega) (by omega))) ?_
    refine l_A (iV ((((j + 1):Nat):Int))) rfl rfl ?_
    apply Ac
    refine ⟨_,?_,((j + 1)),(Bq m b37),v42,rfl,rfl,l27,rfl,h27_1,h27_8,h27_9,rfl,rfl,rfl,(by omega),(by rw [more_take hb37,if_pos (by rw [← p27_1]; exact q40)] <;> assumption),(Val.cast ((by rw [more_take hb37,if_pos (by rw [← p27_1]; exact q40)] <;> assumption)) r42),trivial⟩
    omega
   have q40:=of_decide_eq_false b40
   refine Al ?_
   apply k32
   refine Ag rfl rfl ?_
   refine Aa rfl (Ah (v:=(iV ((j:Int)))) h27_10) ?_
   refine Aa rfl (Br (p:=(j:Int)) (q:=1) rfl rfl (z:=(((j + 1):Nat):Int)) (Bo (by first | rfl | omega | (push_cast; rfl)) (by omega) (by omega))) ?_
   refine l_A (iV ((((j + 1):Nat):Int))) rfl rfl ?_
   apply Ac
   refine ⟨_,?_,((j + 1)),(g2),vv27_7,rfl,rfl,l27,rfl,h27_1,h27_8,h27_9,h27_6,h27_7,rfl,(by omega),(by rw [more_take hb37,if_neg (by rw [← p27_1]; exact q40)] <;> assumption),(Val.cast ((by rw [more_take hb37,if_neg (by rw [← p27_1]; exact q40)] <;> assumption)) VV27_7),trivial⟩
   omega
  have q31:=of_decide_eq_false b31
  refine Bx ?_
  apply k20
  refine Ag rfl rfl ?_
  refine Aa rfl (Ah (v:=(iV ((((c + 1):Nat):Int)))) h27_8) ?_
  refine Aa rfl (Br (p:=(((c + 1):Nat):Int)) (q:=1) rfl rfl (z:=((((c + 1) + 1):Nat):Int)) (Bo (by first | rfl | omega | (push_cast; rfl)) (by omega) (by omega))) ?_
  refine l_A (iV (((((c + 1) + 1):Nat):Int))) rfl rfl ?_
  apply Ac
  refine ⟨_,?_,((c + 1)),(g2),vv27_7,rfl,rfl,(Arz (Arz l13 l25) l27),rfl,h27_1,h27_6,h27_7,rfl,(by omega),(by rw [lensTo_succ,p27_1]; rw [show j = (listsN (c + 1) 0 m.sales.length).length from by have:=intss_length (l:=listsN (c + 1) 0 m.sales.length); omega,List.take_length]),(Val.cast (by rw [lensTo_succ]; rw [show j = (listsN (c + 1) 0 m.sales.length).length from by have:=intss_length (l:=listsN (c + 1) 0 m.sales.length); omega,List.take_length]) VV27_7),trivial⟩
  omega
 have q19:=of_decide_eq_false b19
 refine Bx ?_
 apply k11
 refine w_q rfl rfl fun K43 k43=>?_
 refine Aa rfl (Ah (v:=(iV (g))) h13_6) ?_
 refine Aa rfl (Ah (v:=vv13_7) h13_7) ?_
 refine l_A (iV (g)) rfl rfl ?_
 refine l_A vv13_7 rfl rfl ?_
 refine l_A (iV (0)) rfl rfl ?_
 apply Ac
 apply k43
 refine Aq ?_
 refine hret _ _ _ ?_
 refine ⟨(Arz l2 l13),rfl,vv13_7,Eq.trans (b:=(.tuple #[(iV (g)),vv13_7,(iV (0))])) (Mk (r:=2) (r':=3) (rs:=[4]) (v:=(iV (g))) (v':=vv13_7) (vs:=[(iV (0))]) ⟨rfl,rfl,rfl,trivial⟩) ?_,Val.cast ?_ VV13_7⟩
 ·rw [Aik,if_pos q7,q7,p13_1,show c = m.sales.length by omega,← best_eq]; rfl
 ·rw [Aje,if_pos q7,show c = m.sales.length by omega,← best_eq]; rfl
set_option maxRecDepth 100000 in
theorem c_refProves {mn:Bool} {X:Frame→List Frame→Ro→Own→Cy→Prop} {ρ:Ro} {σ:Own} {m:Market} {vm vl:Value} {l:List Int} (rm:Val ρ vm m) (rl:Val ρ vl l):CallsH (CX mn X) 45 #[vm,vl] ρ σ (fun w ρ' σ'=>ρ' = ρ∧σ' = σ∧w = (.tuple #[(iV (provI m l)),(iV (provF m l))])):=by
 refine Bh (n:=46) (args:=[vm,vl]) [4,5] Tryd.func45 rfl rfl rfl rfl fun Q hret hnor=>?_
 refine w_q rfl rfl fun K1 k1=>?_
 refine Ae rfl (Eb (v:=vm) rfl fun k2=>?_)
 refine Bb (a:=m) rm fun ρ2 l2 r2=>?_
 replace rm:=Asa l2 rm
 replace rl:=Asa l2 rl
 refine l_A (iV (0)) rfl rfl ?_
 refine l_A (iV (0)) rfl rfl ?_
 apply Ac
 apply k1
 refine Ai fun K3 k3=>?_
 refine w_q rfl rfl fun K4 k4=>?_
 refine Ak rfl (Ax Lj rfl r2) fun v5 r5=>?_
 refine Ae rfl (Bn (vs:=[v5]) (v:=(iV (Ch m))) (c_CheckMarket r5) Tryd.func28 rfl rfl ⟨rfl,trivial⟩ ?_)
 refine l_A (iV (Ch m)) rfl rfl ?_
 apply Ac
 apply k4
 refine w_q rfl rfl fun K6 k6=>?_
 refine l_M (iV (Ch m)) rfl rfl ?_
 refine Aa rfl (Dg (p:=Ch m) (q:=0) rfl rfl) ?_
 apply Ac
 apply k6
 refine As (t:=Ch m != 0) rfl (fun b7=>?_) (fun b7=>?_)
 ·have q7:=Mb b7
  refine w_q rfl rfl fun K8 k8=>?_
  refine l_M (iV (Ch m)) rfl rfl ?_
  refine l_A (iV (0)) rfl rfl ?_
  refine l_A (iV (Ch m)) rfl rfl ?_
  apply Ac
  apply k8
  refine Aj (Arw l2) ?_
  refine Aq ?_
  refine hret _ _ _ ?_
  refine ⟨rfl,rfl,Eq.trans (b:=(.tuple #[(iV (0)),(iV (Ch m))])) (Mk (r:=4) (r':=5) (rs:=[]) (v:=(iV (0))) (v':=(iV (Ch m))) (vs:=[]) ⟨rfl,rfl,trivial⟩) ?_⟩
  have hp:provF m l = Ch m:=by rw [provF,Rx q7]
  rw [hp,provI,hp,if_neg q7]
 have q7:=Jh b7
 refine Al ?_
 apply k3
 refine Ai fun K9 k9=>?_
 refine w_q rfl rfl fun K10 k10=>?_
 refine l_A (iV (0)) rfl rfl ?_
 apply Ac
 apply k10
 refine Ao ?_
 have ok:=Qv q7
 have hn8:=ok.nsales
 refine Cc (fun mm ee dd ρ' σ'=>∃ (i:Nat),(l.length - i) = mm∧[] = dd∧ρ2 = ρ'∧σ = σ'∧ee 1 = vl∧ee 2 = (.pointer (some ⟨k2,0,none⟩))∧ee 7 = (iV ((i:Int)))∧(i ≤ l.length)∧(∀ j,j < i→prvAt m l j = 0)∧True) (m:=_) ⟨0,rfl,rfl,rfl,rfl,rfl,rfl,rfl,(Nat.zero_le _),(fun j h=>absurd h (Nat.not_lt_zero _)),trivial⟩ ?_
 rintro m11 e11 _ _ _ ⟨i,rfl,rfl,rfl,rfl,h11_1,h11_2,h11_7,p11_0,p11_1,_⟩
 refine Ai fun K12 k12=>?_
 refine w_q rfl rfl fun K13 k13=>?_
 refine Aa rfl (Ah (v:=(iV ((i:Int)))) h11_7) ?_
 refine Aa rfl (Ah (v:=vl) h11_1) ?_
 have g14:=Val.len rl
 refine Aa rfl (Ce (el:=3) Tryd.underlying30 rfl rl) ?_
 refine Aa rfl (Da (p:=(i:Int)) (q:=((l.length:Nat):Int)) rfl rfl) ?_
 apply Ac
 apply k13
 refine As (t:=decide ((i:Int) < ((l.length:Nat):Int))) rfl (fun b15=>?_) (fun b15=>?_)
 ·have q15:=of_decide_eq_true b15
  refine Al ?_
  apply k12
  refine Ai fun K16 k16=>?_
  refine Ao ?_
  refine Ai fun K17 k17=>?_
  refine Ai fun K18 k18=>?_
  refine Dc [0,1,2,3,4,5,6,7,8,9] (by kernel_rfl) rfl rfl ?_
  refine Be (i:=0) zZ7 rfl (by kernel_rfl) rfl Ary rfl (Ah (v:=vl) h11_1) ?_
  refine Be (i:=1) zZ8 rfl (by kernel_rfl) rfl Ary rfl (Ah (v:=(iV ((i:Int)))) h11_7) ?_
  obtain ⟨a20,ha20⟩:=Ed (xs:=l) (i:=i) (by omega)
  refine Cd (i:=2) zZ9 rfl (by kernel_rfl) rfl Ary rfl (Ci i Tryd.underlying30 ty3 rfl rl (q:=(i:Int)) rfl rfl ha20) fun v19 r19=>?_
  have ⟨g21a,g21b⟩:=At.rng r19
  refine Be (i:=3) Aoz rfl (by kernel_rfl) rfl Ary rfl (Bc ty3 rfl r19) ?_
  refine Hl (i:=4) Aol rfl (by kernel_rfl) rfl Ary rfl (Ay Market.f_sales Tryd.underlying26 rfl rfl Pq (by decide) h11_2 r2) fun v22 r22=>?_
  refine Hl (i:=5) [o1,o1,o1,o1,o1,o1,o0,o0,o0,o0] rfl (by kernel_rfl) rfl Ary rfl (Ax Pq rfl r22) fun v23 r23=>?_
  have g24:=Val.len r23
  refine Bg (i:=6) Ajy rfl (by kernel_rfl) rfl Ary rfl (Ce (el:=59) Tryd.underlying24 rfl r23) ?_
  refine Bg (i:=7) Aho rfl (by kernel_rfl) rfl Ary rfl (Oq (p:=((m.sales.length:Nat):Int)) (q:=1) rfl rfl (z:=(((m.sales.length:Nat):Int) - 1)) (Bo (by first | rfl | omega | (push_cast; rfl)) (by omega) (by omega))) ?_
  refine Dj (i:=8) Aia rfl (by kernel_rfl) rfl rfl (Bn (vs:=[(iV (a20)),(iV (0)),(iV ((((m.sales.length:Nat):Int) - 1)))]) (v:=(.bool (inR a20 0 ((((m.sales.length:Nat):Int) - 1))))) (c_In) Tryd.func79 rfl rfl ⟨rfl,rfl,rfl,trivial⟩ ⟨Ary,?_⟩)
  refine Bg (i:=9) Aiz rfl (by kernel_rfl) rfl Ary rfl (Ix (k:=inR a20 0 ((((m.sales.length:Nat):Int) - 1))) rfl) ?_
  refine Ec rfl ?_
  apply k18
  refine As (t:=!(inR a20 0 ((((m.sales.length:Nat):Int) - 1)))) rfl (fun b25=>?_) (fun b25=>?_)
  ·have b26:=not_eq_t b25
   have q26:=Ui.1 b26
   refine w_q rfl rfl fun K27 k27=>?_
   refine l_A (iV (0)) rfl rfl ?_
   refine l_A (iV (6)) rfl rfl ?_
   apply Ac
   apply k27
   refine Aj (Arw l2) ?_
   refine Aq ?_
   refine hret _ _ _ ?_
   refine ⟨rfl,rfl,Eq.trans (b:=(.tuple #[(iV (0)),(iV (6))])) (Mk (r:=4) (r':=5) (rs:=[]) (v:=(iV (0))) (v':=(iV (6))) (vs:=[]) ⟨rfl,rfl,trivial⟩) ?_⟩
   have hf:prvAt m l i = 6:=prv_6 ha20 b26
   have hp:provF m l = 6:=by rw [provF,Gt q7,Db p11_1 (by omega) hf (by omega)]
   rw [hp,provI,hp,if_neg (by omega)]
  have b28:=not_eq_f b25
  have q28:=Ge.1 b28
  refine Al ?_
  apply k17
  refine Ai fun K29 k29=>?_
  refine Dc [0,1,2,3,4,5,6,7,8,9,10,11,12,13] (by kernel_rfl) rfl rfl ?_
  refine Bg (i:=0) [o1,o0,o0,o0,o0,o0,o0,o0,o0,o0,o0,o0,o0,o0] rfl (by kernel_rfl) rfl Ary rfl (Ah (v:=(iV ((i:Int)))) h11_7) ?_
  refine Bg (i:=1) [o1,o1,o0,o0,o0,o0,o0,o0,o0,o0,o0,o0,o0,o0] rfl (by kernel_rfl) rfl Ary rfl (Gk (p:=(i:Int)) (q:=0) rfl rfl) ?_
  refine Bg (i:=2) [o1,o1,o1,o0,o0,o0,o0,o0,o0,o0,o0,o0,o0,o0] rfl (by kernel_rfl) rfl Ary rfl (Ah (v:=(.bool (decide ((i:Int) > 0)))) rfl) ?_
  refine Akl (decide ((i:Int) > 0)) (fun b30=>?_) (fun b30=>?_)
  ·have q30:=of_decide_eq_true b30
   refine Be (i:=3) [o1,o1,o1,o1,o0,o0,o0,o0,o0,o0,o0,o0,o0,o0] rfl (by kernel_rfl) rfl Ary (Ar rfl rfl rfl b30) (Ah (v:=vl) h11_1) ?_
   refine Be (i:=4) [o1,o1,o1,o1,o1,o0,o0,o0,o0,o0,o0,o0,o0,o0] rfl (by kernel_rfl) rfl Ary (Ar rfl rfl rfl b30) (Ah (v:=(iV ((i:Int)))) h11_7) ?_
   refine Cd (i:=5) [o1,o1,o1,o1,o1,o1,o0,o0,o0,o0,o0,o0,o0,o0] rfl (by kernel_rfl) rfl Ary (Ar rfl rfl rfl b30) (Ci i Tryd.underlying30 ty3 rfl rl (q:=(i:Int)) rfl rfl ha20) fun v31 r31=>?_
   have ⟨g32a,g32b⟩:=At.rng r31
   refine Be (i:=6) [o1,o1,o1,o1,o1,o1,o1,o0,o0,o0,o0,o0,o0,o0] rfl (by kernel_rfl) rfl Ary (Ar rfl rfl rfl b30) (Bc ty3 rfl r31) ?_
   refine Be (i:=7) [o1,o1,o1,o1,o1,o1,o1,o1,o0,o0,o0,o0,o0,o0] rfl (by kernel_rfl) rfl Ary (Ar rfl rfl rfl b30) (Ah (v:=vl) h11_1) ?_
   refine Bg (i:=8) [o1,o1,o1,o1,o1,o1,o1,o1,o1,o0,o0,o0,o0,o0] rfl (by kernel_rfl) rfl Ary (Ar rfl rfl rfl b30) (Ah (v:=(iV ((i:Int)))) h11_7) ?_
   refine Bg (i:=9) [o1,o1,o1,o1,o1,o1,o1,o1,o1,o1,o0,o0,o0,o0] rfl (by kernel_rfl) rfl Ary (Ar rfl rfl rfl b30) (Oq (p:=(i:Int)) (q:=1) rfl rfl (z:=((i:Int) - 1)) (Bo (by first | rfl | omega | (push_cast; rfl)) (by omega) (by omega))) ?_
   obtain ⟨a34,ha34⟩:=Ed (xs:=l) (i:=(((i:Int) - 1)).toNat) (by omega)
   refine Hl (i:=10) [o1,o1,o1,o1,o1,o1,o1,o1,o1,o1,o1,o0,o0,o0] rfl (by kernel_rfl) rfl Ary (Ar rfl rfl rfl b30) (Ci ((((i:Int) - 1)).toNat) Tryd.underlying30 ty3 rfl rl (q:=((i:Int) - 1)) rfl (by omega) ha34) fun v33 r33=>?_
   have ⟨g35a,g35b⟩:=At.rng r33
   refine Bg (i:=11) [o1,o1,o1,o1,o1,o1,o1,o1,o1,o1,o1,o1,o0,o0] rfl (by kernel_rfl) rfl Ary (Ar rfl rfl rfl b30) (Bc ty3 rfl r33) ?_
   refine Bg (i:=12) [o1,o1,o1,o1,o1,o1,o1,o1,o1,o1,o1,o1,o1,o0] rfl (by kernel_rfl) rfl Ary (Ar rfl rfl rfl b30) (Tx (p:=a20) (q:=a34) rfl rfl) ?_
   refine Bg (i:=13) [o1,o1,o1,o1,o1,o1,o1,o1,o1,o1,o1,o1,o1,o1] rfl (by kernel_rfl) rfl Ary rfl (Bt rfl b30 (v:=(.bool (decide (a20 ≤ a34)))) rfl) ?_
   refine Ec rfl ?_
   apply k29
   refine As (t:=decide (a20 ≤ a34)) rfl (fun b36=>?_) (fun b36=>?_)
   ·have q36:=of_decide_eq_true b36
    refine w_q rfl rfl fun K37 k37=>?_
    refine l_A (iV (0)) rfl rfl ?_
    refine l_A (iV (7)) rfl rfl ?_
    apply Ac
    apply k37
    refine Aj (Arw l2) ?_
    refine Aq ?_
    refine hret _ _ _ ?_
    refine ⟨rfl,rfl,Eq.trans (b:=(.tuple #[(iV (0)),(iV (7))])) (Mk (r:=4) (r':=5) (rs:=[]) (v:=(iV (0))) (v':=(iV (7))) (vs:=[]) ⟨rfl,rfl,trivial⟩) ?_⟩
    have hf:prvAt m l i = 7:=prv_7 ha20 b28 (by omega) (by rw [← ha34]; congr 1; omega) (by omega)
    have hp:provF m l = 7:=by rw [provF,Gt q7,Db p11_1 (by omega) hf (by omega)]
    rw [hp,provI,hp,if_neg (by omega)]
   have q36:=of_decide_eq_false b36
   refine Al ?_
   apply k16
   refine Ag rfl rfl ?_
   refine Aa rfl (Ah (v:=(iV ((i:Int)))) h11_7) ?_
   refine Aa rfl (Br (p:=(i:Int)) (q:=1) rfl rfl (z:=(((i + 1):Nat):Int)) (Bo (by first | rfl | omega | (push_cast; rfl)) (by omega) (by omega))) ?_
   refine l_A (iV ((((i + 1):Nat):Int))) rfl rfl ?_
   apply Ac
   refine ⟨_,?_,((i + 1)),rfl,rfl,rfl,rfl,h11_1,h11_2,rfl,(by omega),(Ef p11_1 (prv_0 ha20 b28 (.inr ⟨_,(by rw [← ha34]; congr 1; omega),by omega⟩))),trivial⟩
   omega
  have q30:=of_decide_eq_false b30
  refine Ua (i:=3) [o1,o1,o1,o1,o0,o0,o0,o0,o0,o0,o0,o0,o0,o0] rfl (by kernel_rfl) rfl Ary (Bl rfl rfl rfl b30) ?_
  refine Ua (i:=4) [o1,o1,o1,o1,o1,o0,o0,o0,o0,o0,o0,o0,o0,o0] rfl (by kernel_rfl) rfl Ary (Bl rfl rfl rfl b30) ?_
  refine Ua (i:=5) [o1,o1,o1,o1,o1,o1,o0,o0,o0,o0,o0,o0,o0,o0] rfl (by kernel_rfl) rfl Ary (Bl rfl rfl rfl b30) ?_
  refine Ua (i:=6) [o1,o1,o1,o1,o1,o1,o1,o0,o0,o0,o0,o0,o0,o0] rfl (by kernel_rfl) rfl Ary (Bl rfl rfl rfl b30) ?_
  refine Ua (i:=7) [o1,o1,o1,o1,o1,o1,o1,o1,o0,o0,o0,o0,o0,o0] rfl (by kernel_rfl) rfl Ary (Bl rfl rfl rfl b30) ?_
  refine Xl (i:=8) [o1,o1,o1,o1,o1,o1,o1,o1,o1,o0,o0,o0,o0,o0] rfl (by kernel_rfl) rfl Ary (Bl rfl rfl rfl b30) ?_
  refine Xl (i:=9) [o1,o1,o1,o1,o1,o1,o1,o1,o1,o1,o0,o0,o0,o0] rfl (by kernel_rfl) rfl Ary (Bl rfl rfl rfl b30) ?_
  refine Xl (i:=10) [o1,o1,o1,o1,o1,o1,o1,o1,o1,o1,o1,o0,o0,o0] rfl (by kernel_rfl) rfl Ary (Bl rfl rfl rfl b30) ?_
  refine Xl (i:=11) [o1,o1,o1,o1,o1,o1,o1,o1,o1,o1,o1,o1,o0,o0] rfl (by kernel_rfl) rfl Ary (Bl rfl rfl rfl b30) ?_
  refine Xl (i:=12) [o1,o1,o1,o1,o1,o1,o1,o1,o1,o1,o1,o1,o1,o0] rfl (by kernel_rfl) rfl Ary (Bl rfl rfl rfl b30) ?_
  refine Bg (i:=13) [o1,o1,o1,o1,o1,o1,o1,o1,o1,o1,o1,o1,o1,o1] rfl (by kernel_rfl) rfl Ary rfl (Bm rfl b30 (v:=(.bool (false))) rfl) ?_
  refine Ec rfl ?_
  apply k29
  refine Cg rfl rfl ?_
  refine Al ?_
  apply k16
  refine Ag rfl rfl ?_
  refine Aa rfl (Ah (v:=(iV ((i:Int)))) h11_7) ?_
  refine Aa rfl (Br (p:=(i:Int)) (q:=1) rfl rfl (z:=(((i + 1):Nat):Int)) (Bo (by first | rfl | omega | (push_cast; rfl)) (by omega) (by omega))) ?_
  refine l_A (iV ((((i + 1):Nat):Int))) rfl rfl ?_
  apply Ac
  refine ⟨_,?_,((i + 1)),rfl,rfl,rfl,rfl,h11_1,h11_2,rfl,(by omega),(Ef p11_1 (prv_0 ha20 b28 (.inl (by omega)))),trivial⟩
  omega
 have q15:=of_decide_eq_false b15
 refine Bx ?_
 apply k9
 refine w_q rfl rfl fun K38 k38=>?_
 refine Ak rfl (Ax Lj h11_2 r2) fun v39 r39=>?_
 refine Aa rfl (Ah (v:=vl) h11_1) ?_
 have hp0:provF m l = 0:=by rw [provF,Gt q7,Fb fun j hj=>p11_1 j (by omega)]
 obtain ⟨hp1,hp2,hp3⟩:=provF_0 hp0
 have hp4:=asc_ok hp3 hn8
 refine Ae rfl (Bn (vs:=[v39,vl]) (v:=(iV (Bq m (natL l)))) (c_Over (l:=natL l) r39 (Val.cast hp2 rl) ok hp4.1 hp4.2) Tryd.func96 rfl rfl ⟨rfl,rfl,trivial⟩ ?_)
 refine l_A (iV (Bq m (natL l))) rfl rfl ?_
 refine l_A (iV (0)) rfl rfl ?_
 apply Ac
 apply k38
 refine Aj (Arw l2) ?_
 refine Aq ?_
 refine hret _ _ _ ?_
 refine ⟨rfl,rfl,Eq.trans (b:=(.tuple #[(iV (Bq m (natL l))),(iV (0))])) (Mk (r:=4) (r':=5) (rs:=[]) (v:=(iV (Bq m (natL l)))) (v':=(iV (0))) (vs:=[]) ⟨rfl,rfl,trivial⟩) ?_⟩
 rw [hp0,provI,if_pos hp0]
end Go.Proofs.YtoefdnbaklajeaaDoor

namespace Go.Proofs.YtoefdnbaklajeaaDoor
open Go
theorem pick_sub {m:Market}:∀ {l:List Nat} {f:Nat},asc f m.sales.length l→(Iv m l).Sublist (m.sales.drop f)
  | [],f,_=>by simp [Iv]
  | i :: l,f,⟨h1,h2,h3⟩=>by
    have ih:=pick_sub h3
    have e1:Iv m (i :: l) = m.sales[i] :: Iv m l:=by
      unfold Iv; rw [List.filterMap_cons,List.getElem?_eq_getElem h2]
    rw [e1]
    have h4:(m.sales[i] :: Iv m l).Sublist (m.sales.drop i):=by
      rw [List.drop_eq_getElem_cons h2]
      exact ih.cons_cons _
    refine h4.trans ?_
    rw [show i = f + (i - f) by omega,← List.drop_drop]
    exact List.drop_sublist _ _
theorem sub_pick {α:Type} {ss l:List α} (h:ss.Sublist l):∀ f (L:List α),L.drop f = l→∃ is,asc f L.length is∧is.filterMap (L[·]?) = ss:=by
  induction h with
  | slnil=>intro f L hL; exact ⟨[],trivial,rfl⟩
  | @cons l1 l2 a h ih =>
    intro f L hL
    have hlt:f < L.length:=by
      rcases Nat.lt_or_ge f L.length with h' | h'
      · exact h'
      · rw [List.drop_eq_nil_of_le h'] at hL; cases hL
    rw [List.drop_eq_getElem_cons hlt] at hL
    injection hL with _ hL
    obtain ⟨is,h1,h2⟩:=ih (f + 1) L hL
    exact ⟨is,asc_mono h1 (by omega),h2⟩
  | @cons_cons l1 l2 a h ih =>
    intro f L hL
    have hlt:f < L.length:=by
      rcases Nat.lt_or_ge f L.length with h' | h'
      · exact h'
      · rw [List.drop_eq_nil_of_le h'] at hL; cases hL
    rw [List.drop_eq_getElem_cons hlt] at hL
    injection hL with ha hL
    obtain ⟨is,h1,h2⟩:=ih (f + 1) L hL
    refine ⟨f :: is,⟨Nat.le_refl _,hlt,h1⟩,?_⟩
    rw [List.filterMap_cons,List.getElem?_eq_getElem hlt,ha,h2]
/-- No set of sales proves more than the best one,which proves something or nothing. -/
theorem exc_le {m:Market} {ss:List Sale} (hs:ss.Sublist m.sales):Tf m ss ≤ Bq m (Adz m):=by
  obtain ⟨is,h1,h2⟩:=sub_pick hs 0 m.sales rfl
  have e1:Tf m ss = Bq m is:=by unfold Bq Iv; rw [h2]
  rw [e1]
  rcases (bestL_is m).2 is h1 with h | h | h
  · rw [h]; exact Int.le_refl _
  · omega
  · omega
theorem exc_at {m:Market}:∃ ss,ss.Sublist m.sales∧Bq m (Adz m) = Tf m ss:=⟨Iv m (Adz m),by have:=pick_sub (bestL_is m).1; simpa using this,rfl⟩
theorem exc_nonneg {m:Market} (ok:MarketOk m):0 ≤ Bq m (Adz m):=by
  have:=exc_le (m:=m) (ss:=[]) (List.nil_sublist _)
  have e:=Qy ok
  unfold Bq Iv at e
  simp only [List.filterMap_nil] at e
  omega
theorem marketF_sub {m:Market} (h:Ch m = 0) {ss:List Sale} (hs:ss.Sublist m.sales):Ch ⟨m.houses,m.marks,m.fields,ss⟩ = 0:=by
  have ok:=Qv h
  unfold Ch at *
  simp only [Jr] at *
  obtain ⟨h1,h2,h3,h4⟩:=h
  refine ⟨h1,h2,h3,?_⟩
  unfold Jb at *
  have hl:=hs.length_le
  split at h4
  · cases h4
  rename_i hn
  simp only
  rw [if_neg (by omega),Fz]
  rw [Fz] at h4
  intro j hj
  have hx:ss[j]? = some ss[j]:=List.getElem?_eq_getElem hj
  have hm:ss[j] ∈ m.sales:=hs.subset (List.getElem_mem hj)
  obtain ⟨k,hk⟩:=List.getElem?_of_mem hm
  have h5:=h4 k (List.getElem?_eq_some_iff.1 hk).1
  unfold Iz at *
  rw [hk] at h5
  simp only [hx]
  exact h5
theorem enough_exc {m:Market} (h:Ch m = 0) (set:Nat):(Aik (rest m set) == 0) = Fk m set:=by
  have h2:Ch (rest m set) = 0:=marketF_sub h List.filter_sublist
  have ok2:=Qv h2
  unfold Aik
  rw [if_pos h2,Bool.eq_iff_iff,beq_iff_eq,Pf]
  have hn:=exc_nonneg ok2
  constructor
  · intro h3 ss hs ht
    have h4:=exc_le (m:=rest m set) (ss:=ss) (by
      have:ss = ss.filter fun s=>!Je set s:=(List.filter_eq_self.2 fun s hs=>by simp [ht s hs]).symm
      rw [this]; exact hs.filter _)
    have:Tf (rest m set) ss = Tf m ss:=rfl
    omega
  · intro h3
    obtain ⟨ss,hs,he⟩:=exc_at (m:=rest m set)
    have:Tf (rest m set) ss = Tf m ss:=rfl
    have:=h3 ss (hs.trans List.filter_sublist) fun s hm=>by
      have:=(List.mem_filter.1 (hs.subset hm)).2
      simpa using this
    omega
theorem any_mono {l:List Int} {p:Int→Bool} {k:Nat} (h:(l.take k).any p = true):(l.take (k + 1)).any p = true:=by
  rw [List.take_add_one,List.any_append,h]; rfl
theorem any_succ_take {l:List Int} {p:Int→Bool} {k:Nat} {x:Int} (h:l[k]? = some x):(l.take (k + 1)).any p = ((l.take k).any p || p x):=by
  rw [List.take_add_one,h,List.any_append]; simp
theorem filter_take {α:Type} {l:List α} {p:α→Bool} {k:Nat} {x:α} (h:l[k]? = some x):(l.take (k + 1)).filter p = (l.take k).filter p ++ (if p x then [x] else []):=by
  rw [List.take_add_one,h,List.filter_append]
  congr 1
  cases hp:p x <;> simp [hp]
theorem lvTo_succ {m:Market} {n i:Nat}:Aoo m n (i + 1) = Aoo m n i ++ (if (De i == n) && Fk m i then [i] else []):=by
  unfold Aoo
  rw [List.range_succ,List.filter_append]
  congr 1
  cases h:((De i == n) && Fk m i) <;> simp [h]
theorem lvTo_lt {m:Market} {n i:Nat}:(Aoo m n i).length ≤ i:=by
  have:=List.length_filter_le (fun s=>(De s == n) && Fk m s) (List.range i)
  simpa [Aoo] using this
/-- How often a house is among them,as far as the sets have been gone through,and the houses of the next one. -/
def timesRow (m:Market) (n i h:Nat):List Int:=(List.range m.houses.length).map fun j=>((Jd (Aoo m n i) j + (if j < h then (i >>> j) % 2 else 0):Nat):Int)
theorem times_nil {m:Market} {n:Nat}:List.replicate m.houses.length (0:Int) = timesRow m n 0 0:=by
  unfold timesRow
  have:(fun j=>((Jd (Aoo m n 0) j + (if j < 0 then (0 >>> j) % 2 else 0):Nat):Int)) = fun _=>0:=by
    funext j; simp [Aoo,Jd]
  rw [this]; simp [List.map_const']
theorem times_get {m:Market} {n i h k:Nat} {z:Int} (hz:(timesRow m n i h)[k]? = some z):z = ((Jd (Aoo m n i) k + (if k < h then (i >>> k) % 2 else 0):Nat):Int):=by
  unfold timesRow at hz
  rw [List.getElem?_map] at hz
  obtain ⟨a,ha,rfl⟩:=Option.map_eq_some_iff.1 hz
  obtain ⟨_,h2⟩:=List.getElem?_eq_some_iff.1 ha
  simp only [List.getElem_range] at h2
  rw [h2]
theorem times_set {m:Market} {n i h:Nat} {z:Int} (hz:(timesRow m n i h)[h]? = some z):(timesRow m n i h).set h (z + (((i >>> h) % 2:Nat):Int)) = timesRow m n i (h + 1):=by
  have hz':=times_get hz
  rw [if_neg (by omega)] at hz'
  apply List.ext_getElem?
  intro k
  rw [List.getElem?_set]
  unfold timesRow
  simp only [List.getElem?_map,List.length_map,List.length_range]
  by_cases hk:k < m.houses.length
  · rw [List.getElem?_range hk]
    simp only [Option.map_some]
    by_cases e:h = k
    · subst e
      rw [if_pos rfl,if_pos hk,if_pos (by omega),hz']
      congr 1
    · rw [if_neg e]
      congr 3
      by_cases e2:k < h
      · rw [if_pos e2,if_pos (by omega)]
      · rw [if_neg e2,if_neg (by omega)]
  · have:(List.range m.houses.length)[k]? = none:=List.getElem?_eq_none (by simpa using Nat.le_of_not_lt hk)
    rw [this]
    split
    · rw [if_neg (by omega)]; rfl
    · rfl
theorem count_app {l:List Nat} {i k:Nat}:Jd (l ++ [i]) k = Jd l k + (i >>> k) % 2:=by
  unfold Jd; rw [List.map_append,List.sum_append]; simp
theorem times_in {m:Market} {n i:Nat} (h:((De i == n) && Fk m i) = true):timesRow m n i m.houses.length = timesRow m n (i + 1) 0:=by
  unfold timesRow
  apply List.map_congr_left
  intro j hj
  have hj':=List.mem_range.1 hj
  rw [lvTo_succ,h,if_pos rfl,count_app,if_pos hj',if_neg (by omega)]
  rfl
theorem times_out {m:Market} {n i:Nat} (h:((De i == n) && Fk m i) = false):timesRow m n i 0 = timesRow m n (i + 1) 0:=by
  unfold timesRow
  apply List.map_congr_left
  intro j hj
  rw [lvTo_succ,h]
  simp
end Go.Proofs.YtoefdnbaklajeaaDoor

namespace Go.Proofs.YtoefdnbaklajeaaDoor
open Go
set_option maxRecDepth 100000 in
theorem c_refEnough {mn:Bool} {X:Frame→List Frame→Ro→Own→Cy→Prop} {ρ:Ro} {σ:Own} {m:Market} {vm:Value} {set:Nat} (rm:Val ρ vm m) (hm:Ch m = 0) (hset:set < 65536):CallsH (CX mn X) 100 #[vm,(iV ((set:Int)))] ρ σ (fun w ρ' σ'=>ρ' = ρ∧σ' = σ∧w = (.bool (Fk m set))):=by
 have ok:=Qv hm
 have hn8:=ok.nsales
 have hh5:=Hp ok
 refine Bh (n:=68) (args:=[vm,(iV ((set:Int)))]) [4] Tryd.func100 rfl rfl rfl rfl fun Q hret hnor=>?_
 refine w_q rfl rfl fun K1 k1=>?_
 refine Ae rfl (Eb (v:=vm) rfl fun k2=>?_)
 refine Bb (a:=m) rm fun ρ2 l2 r2=>?_
 replace rm:=Asa l2 rm
 refine l_A (.bool (false)) rfl rfl ?_
 apply Ac
 apply k1
 refine w_q rfl rfl fun K3 k3=>?_
 refine Ak rfl (Ax Lj rfl r2) fun v4 r4=>?_
 refine Ae rfl (Ct Aoj fun k5=>?_)
 obtain ⟨c6_0,c6_1,c6_2,c6_3,e6_,i6_1,i6_2,i6_3,i6_4⟩:=Market.open_ r4
 have e6_c:v4.cells = [c6_0,c6_1,c6_2,c6_3].toArray:=by rw [e6_]; rfl
 refine Cx rfl (Ld (i:=0) (vs:=[c6_0,c6_1,c6_2,c6_3]) (c':=[c6_0,c6_1,c6_2,c6_3]) ⟨_,Ab Tryd.typeInfo26,rfl⟩ rfl rfl e6_c rfl (Xv ⟨(Val.single_l i6_1),(Val.single_l i6_2),(Val.single_l i6_3),(Val.single_l i6_4),trivial⟩) rfl (Nat.le_of_ble_eq_true rfl) rfl ?_)
 apply Ac
 apply k3
 refine w_q rfl rfl fun K7 k7=>?_
 refine Aa rfl (Cb Tryd.underlying26 rfl rfl ⟨_,Ab Tryd.typeInfo24,rfl⟩ (by decide) rfl rfl) ?_
 refine Cx rfl (Cz (j:=0) (v:=(.slice none 0 0)) ⟨_,Ab Tryd.typeInfo24,rfl⟩ rfl rfl rfl rfl (Nat.le_of_ble_eq_true rfl) ?_)
 apply Ac
 apply k7
 refine Ai fun K8 k8=>?_
 refine w_q rfl rfl fun K9 k9=>?_
 refine l_A (iV (0)) rfl rfl ?_
 apply Ac
 apply k9
 refine Ao ?_
 refine Cc (fun mm ee dd ρ' σ'=>∃ (i:Nat) (ov10_5c3:Value) (og10_5c3:Own),(m.sales.length - i) = mm∧[] = dd∧Ro.le ρ2 ρ'∧(og10_5c3 ++ ((k5,Res.obj (Obj.cells [c6_0,c6_1,c6_2,ov10_5c3].toArray 26 (0,0))) :: σ)) = σ'∧ee 1 = (iV ((set:Int)))∧ee 2 = (.pointer (some ⟨k2,0,none⟩))∧ee 5 = (.pointer (some ⟨k5,0,none⟩))∧ee 6 = (iV ((i:Int)))∧(i ≤ m.sales.length)∧Grow ρ' 59 ov10_5c3 ((m.sales.take i).filter (fun s=>!Je set s)) og10_5c3∧True) (m:=_) ⟨0,(.slice none 0 0),[],rfl,rfl,Ary,rfl,rfl,rfl,rfl,rfl,(Nat.zero_le _),(Ga (by simp) Hn),trivial⟩ ?_
 rintro m10 e10 _ ρ10 _ ⟨i,ov10_5c3,og10_5c3,rfl,rfl,l10,rfl,h10_1,h10_2,h10_5,h10_6,p10_0,OG10_5c3,_⟩
 replace r2:=Arv l10 r2
 replace i6_1:=Asa l10 i6_1
 replace i6_2:=Asa l10 i6_2
 replace i6_3:=Asa l10 i6_3
 refine Ai fun K11 k11=>?_
 refine w_q rfl rfl fun K12 k12=>?_
 refine Aa rfl (Ah (v:=(iV ((i:Int)))) h10_6) ?_
 refine Ak rfl (Ay Market.f_sales Tryd.underlying26 rfl rfl Pq (by decide) h10_2 r2) fun v13 r13=>?_
 refine Ak rfl (Ax Pq rfl r13) fun v14 r14=>?_
 have g15:=Val.len r14
 refine Aa rfl (Ce (el:=59) Tryd.underlying24 rfl r14) ?_
 refine Aa rfl (Da (p:=(i:Int)) (q:=((m.sales.length:Nat):Int)) rfl rfl) ?_
 apply Ac
 apply k12
 refine As (t:=decide ((i:Int) < ((m.sales.length:Nat):Int))) rfl (fun b16=>?_) (fun b16=>?_)
 ·have q16:=of_decide_eq_true b16
  refine Al ?_
  apply k11
  refine Ai fun K17 k17=>?_
  refine Ao ?_
  refine w_q rfl rfl fun K18 k18=>?_
  refine l_A (.bool (false)) rfl rfl ?_
  apply Ac
  apply k18
  refine Ai fun K19 k19=>?_
  refine w_q rfl rfl fun K20 k20=>?_
  refine l_A (iV (0)) rfl rfl ?_
  apply Ac
  apply k20
  refine Ao ?_
  obtain ⟨a21,ha21⟩:=Ed (xs:=m.sales) (i:=i) (by omega)
  have gs_a21:=ok.sale _ _ ha21
  refine Cc (fun mm ee dd ρ' σ'=>∃ (k:Nat) (tb:Bool),(a21.sellers.length - k) = mm∧[] = dd∧ρ10 = ρ'∧(og10_5c3 ++ ((k5,Res.obj (Obj.cells [c6_0,c6_1,c6_2,ov10_5c3].toArray 26 (0,0))) :: σ)) = σ'∧ee 1 = (iV ((set:Int)))∧ee 2 = (.pointer (some ⟨k2,0,none⟩))∧ee 5 = (.pointer (some ⟨k5,0,none⟩))∧ee 6 = (iV ((i:Int)))∧ee 7 = (.bool (tb))∧ee 8 = (iV ((k:Int)))∧(k ≤ a21.sellers.length)∧(tb = (a21.sellers.take k).any (fun x=>Cu set x.toNat))∧True) (m:=_) ⟨0,false,rfl,rfl,rfl,rfl,h10_1,h10_2,h10_5,h10_6,rfl,rfl,(Nat.zero_le _),(by simp),trivial⟩ ?_
  rintro m22 e22 _ _ _ ⟨k,tb,rfl,rfl,rfl,rfl,h22_1,h22_2,h22_5,h22_6,h22_7,h22_8,p22_0,p22_1,_⟩
  refine Ai fun K23 k23=>?_
  refine w_q rfl rfl fun K24 k24=>?_
  refine Aa rfl (Ah (v:=(iV ((k:Int)))) h22_8) ?_
  refine Ak rfl (Ay Market.f_sales Tryd.underlying26 rfl rfl Pq (by decide) h22_2 r2) fun v25 r25=>?_
  refine Ak rfl (Ax Pq rfl r25) fun v26 r26=>?_
  refine Aa rfl (Ah (v:=(iV ((i:Int)))) h22_6) ?_
  refine Ak rfl (Ci i Tryd.underlying24 Su rfl r26 (q:=(i:Int)) rfl rfl ha21) fun v27 r27=>?_
  refine Ak rfl (Ay Sale.f_sellers Tryd.underlying59 rfl rfl Vg (by decide) rfl r27) fun v28 r28=>?_
  refine Ak rfl (Ax Vg rfl r28) fun v29 r29=>?_
  have g30:=Val.len r29
  refine Aa rfl (Ce (el:=3) Tryd.underlying30 rfl r29) ?_
  refine Aa rfl (Da (p:=(k:Int)) (q:=((a21.sellers.length:Nat):Int)) rfl rfl) ?_
  apply Ac
  apply k24
  refine As (t:=decide ((k:Int) < ((a21.sellers.length:Nat):Int))) rfl (fun b31=>?_) (fun b31=>?_)
  ·have q31:=of_decide_eq_true b31
   refine Al ?_
   apply k23
   refine Ai fun K32 k32=>?_
   refine Ao ?_
   refine Ag rfl rfl ?_
   refine Aa rfl (Ah (v:=(.bool (tb))) h22_7) ?_
   refine l_M (.bool (tb)) rfl rfl ?_
   refine Cn (tb) (fun b33=>?_) (fun b33=>?_)
   ·refine Ap (Bl rfl rfl rfl b33) ?_
    refine Ap (Bl rfl rfl rfl b33) ?_
    refine Ap (Bl rfl rfl rfl b33) ?_
    refine Ap (Bl rfl rfl rfl b33) ?_
    refine Ap (Bl rfl rfl rfl b33) ?_
    refine Ap (Bl rfl rfl rfl b33) ?_
    refine Ap (Bl rfl rfl rfl b33) ?_
    refine Ap (Bl rfl rfl rfl b33) ?_
    refine Ap (Bl rfl rfl rfl b33) ?_
    refine Ap (Bl rfl rfl rfl b33) ?_
    refine Ap (Bl rfl rfl rfl b33) ?_
    refine Ap (Bl rfl rfl rfl b33) ?_
    refine Ap (Bl rfl rfl rfl b33) ?_
    refine Aa rfl (Bt rfl b33 (v:=(.bool (true))) rfl) ?_
    refine l_A (.bool (true)) rfl rfl ?_
    apply Ac
    apply k32
    refine Ag rfl rfl ?_
    refine Aa rfl (Ah (v:=(iV ((k:Int)))) h22_8) ?_
    refine Aa rfl (Br (p:=(k:Int)) (q:=1) rfl rfl (z:=(((k + 1):Nat):Int)) (Bo (by first | rfl | omega | (push_cast; rfl)) (by omega) (by omega))) ?_
    refine l_A (iV ((((k + 1):Nat):Int))) rfl rfl ?_
    apply Ac
    refine ⟨_,?_,((k + 1)),(true),rfl,rfl,rfl,rfl,h22_1,h22_2,h22_5,h22_6,rfl,rfl,(by omega),(any_mono (by rw [← p22_1,b33])).symm,trivial⟩
    omega
   refine Aa (Ar rfl rfl rfl b33) (Ah (v:=(iV ((set:Int)))) h22_1) ?_
   refine Ak (Ar rfl rfl rfl b33) (Ay Market.f_sales Tryd.underlying26 rfl rfl Pq (by decide) h22_2 r2) fun v34 r34=>?_
   refine Ak (Ar rfl rfl rfl b33) (Ax Pq rfl r34) fun v35 r35=>?_
   refine Aa (Ar rfl rfl rfl b33) (Ah (v:=(iV ((i:Int)))) h22_6) ?_
   refine Ak (Ar rfl rfl rfl b33) (Ci i Tryd.underlying24 Su rfl r35 (q:=(i:Int)) rfl rfl ha21) fun v36 r36=>?_
   refine Ak (Ar rfl rfl rfl b33) (Ay Sale.f_sellers Tryd.underlying59 rfl rfl Vg (by decide) rfl r36) fun v37 r37=>?_
   refine Ak (Ar rfl rfl rfl b33) (Ax Vg rfl r37) fun v38 r38=>?_
   refine Aa (Ar rfl rfl rfl b33) (Ah (v:=(iV ((k:Int)))) h22_8) ?_
   obtain ⟨a40,ha40⟩:=Ed (xs:=a21.sellers) (i:=k) (by omega)
   have gt_a40:=gs_a21.2.2.1 _ _ ha40
   obtain ⟨b41_,hc41⟩:∃ b:Nat,a40 = (b:Int):=⟨a40.toNat,by omega⟩
   subst hc41
   refine Ak (Ar rfl rfl rfl b33) (Ci k Tryd.underlying30 ty3 rfl r38 (q:=(k:Int)) rfl rfl ha40) fun v39 r39=>?_
   have ⟨g42a,g42b⟩:=At.rng r39
   refine Aa (Ar rfl rfl rfl b33) (Bc ty3 rfl r39) ?_
   refine Aa (Ar rfl rfl rfl b33) (Jq (p:=set) (q:=b41_) rfl rfl rfl (by omega)) ?_
   refine Aa (Ar rfl rfl rfl b33) (y_rem (p:=(((set >>> b41_):Nat):Int)) (q:=2) rfl rfl (by omega) (z:=((((set >>> b41_) % 2):Nat):Int)) rfl) ?_
   refine Aa (Ar rfl rfl rfl b33) (Ek (p:=((((set >>> b41_) % 2):Nat):Int)) (q:=1) rfl rfl) ?_
   refine Aa rfl (Bm rfl b33 (v:=(.bool (((((set >>> b41_) % 2):Nat):Int) == 1))) rfl) ?_
   refine l_A (.bool (((((set >>> b41_) % 2):Nat):Int) == 1)) rfl rfl ?_
   apply Ac
   apply k32
   refine Ag rfl rfl ?_
   refine Aa rfl (Ah (v:=(iV ((k:Int)))) h22_8) ?_
   refine Aa rfl (Br (p:=(k:Int)) (q:=1) rfl rfl (z:=(((k + 1):Nat):Int)) (Bo (by first | rfl | omega | (push_cast; rfl)) (by omega) (by omega))) ?_
   refine l_A (iV ((((k + 1):Nat):Int))) rfl rfl ?_
   apply Ac
   refine ⟨_,?_,((k + 1)),(((((set >>> b41_) % 2):Nat):Int) == 1),rfl,rfl,rfl,rfl,h22_1,h22_2,h22_5,h22_6,rfl,rfl,(by omega),(by rw [Ars,any_succ_take ha40,← p22_1,b33,Bool.false_or,Int.toNat_natCast]),trivial⟩
   omega
  have q31:=of_decide_eq_false b31
  refine Bx ?_
  apply k19
  refine w_q rfl rfl fun K43 k43=>?_
  refine Aa rfl (Ah (v:=(.bool (tb))) h22_7) ?_
  refine Aa rfl (Ix (k:=tb) rfl) ?_
  apply Ac
  apply k43
  refine As (t:=!(tb)) rfl (fun b44=>?_) (fun b44=>?_)
  ·have b45:=not_eq_t b44
   refine Dc [0,1,2,3,4,5,6,7,8,9,10] (by kernel_rfl) rfl rfl ?_
   refine Be (i:=0) [o1,o0,o0,o0,o0,o0,o0,o0,o0,o0,o0] rfl (by kernel_rfl) rfl Ary rfl (Cb Tryd.underlying26 rfl rfl ⟨_,Ab Tryd.typeInfo24,rfl⟩ (by decide) h22_5 rfl) ?_
   refine Cd (i:=2) [o1,o0,o1,o0,o0,o0,o0,o0,o0,o0,o0] rfl (by kernel_rfl) rfl Ary rfl (Ay Market.f_sales Tryd.underlying26 rfl rfl Pq (by decide) h22_2 r2) fun v46 r46=>?_
   refine Cd (i:=3) [o1,o0,o1,o1,o0,o0,o0,o0,o0,o0,o0] rfl (by kernel_rfl) rfl Ary rfl (Ax Pq rfl r46) fun v47 r47=>?_
   refine Be (i:=4) [o1,o0,o1,o1,o1,o0,o0,o0,o0,o0,o0] rfl (by kernel_rfl) rfl Ary rfl (Ah (v:=(iV ((i:Int)))) h22_6) ?_
   refine Cd (i:=5) [o1,o0,o1,o1,o1,o1,o0,o0,o0,o0,o0] rfl (by kernel_rfl) rfl Ary rfl (Ci i Tryd.underlying24 Su rfl r47 (q:=(i:Int)) rfl rfl ha21) fun v48 r48=>?_
   refine Cd (i:=6) [o1,o0,o1,o1,o1,o1,o1,o0,o0,o0,o0] rfl (by kernel_rfl) rfl Ary rfl (Ax Su rfl r48) fun v49 r49=>?_
   refine Ej (σ':=((k5,Res.obj (Obj.cells [c6_0,c6_1,c6_2,ov10_5c3].toArray 26 (0,0))) :: (og10_5c3 ++ σ))) (Arx (List.perm_append_comm_assoc og10_5c3 ([(k5,Res.obj (Obj.cells [c6_0,c6_1,c6_2,ov10_5c3].toArray 26 (0,0)))]) _)) id ?_
   refine Acr (i:=1) (j:=7) zZ2 [o1,o0,o1,o1,o1,o1,o1,o1,o0,o0,o0] rfl rfl (by kernel_rfl) rfl rfl rfl rfl ?_ ?_
   ·refine Dt (i:=0) (v:=ov10_5c3) ⟨_,Tryd.underlying24,rfl⟩ rfl rfl rfl ⟨Ary,?_⟩
    refine Dj (i:=7) zZ3 rfl (by kernel_rfl) rfl rfl (Bi (α:=Sale) (xs:=[a21]) (vs:=[v49]) Tryd.underlying24 Su Aeo rfl (by decide) (Dl (os:=[.tmp 56]) ⟨rfl,trivial⟩) ⟨r49,trivial⟩ rfl (by decide) fun k50 cs50 R50=>⟨Ary,?_⟩)
    have G50:Grow ρ10 59 (.slice (some ⟨k50,0,none⟩) 1 1) ([a21]:List Sale) [(k50,.obj (.cells cs50.toArray 59 (0,0)))]:=Bs R50 rfl (by decide)
    refine Ls G50 fun ρ52 l52 r52=>?_
    replace r2:=Arv l52 r2
    replace i6_1:=Asa l52 i6_1
    replace i6_2:=Asa l52 i6_2
    replace i6_3:=Asa l52 i6_3
    replace OG10_5c3:=Grow.mono l52 OG10_5c3
    replace r46:=Arv l52 r46
    replace r47:=Asa l52 r47
    replace r48:=Arv l52 r48
    replace r49:=Asa l52 r49
    refine Ej (σ':=(og10_5c3 ++ ((k5,Res.obj (Obj.cells [c6_0,c6_1,c6_2,ov10_5c3].toArray 26 (0,0))) :: σ))) (Arx (List.perm_append_comm_assoc ([(k5,Res.obj (Obj.cells [c6_0,c6_1,c6_2,ov10_5c3].toArray 26 (0,0)))]) og10_5c3 _)) id ?_
    refine Dj (i:=8) zZ4 rfl (by kernel_rfl) rfl rfl (Fx (σ:=((k5,Res.obj (Obj.cells [c6_0,c6_1,c6_2,ov10_5c3].toArray 26 (0,0))) :: σ)) (gr:=og10_5c3) (xs:=(m.sales.take i).filter (fun s=>!Je set s)) (ys:=([a21]:List Sale)) Tryd.underlying24 Tryd.underlying24 (Ab Tryd.typeInfo59) rfl (Nat.le_of_ble_eq_true rfl) rfl rfl rfl rfl OG10_5c3 r52 (by have h1:=List.length_filter_le (fun s=>!Je set s) (m.sales.take i); simp only [List.length_append,List.length_cons,List.length_nil,List.length_take] at *; omega) fun v51 gr51 G51=>⟨l52,?_⟩)
    refine Bg (i:=9) zZ5 rfl (by kernel_rfl) rfl l52 rfl (Cb Tryd.underlying26 rfl rfl ⟨_,Ab Tryd.typeInfo24,rfl⟩ (by decide) h22_5 rfl) ?_
    refine Ej (σ':=((k5,Res.obj (Obj.cells [c6_0,c6_1,c6_2,ov10_5c3].toArray 26 (0,0))) :: (gr51 ++ σ))) (Arx (List.perm_append_comm_assoc gr51 ([(k5,Res.obj (Obj.cells [c6_0,c6_1,c6_2,ov10_5c3].toArray 26 (0,0)))]) _)) id ?_
    refine Fi (i:=10) zZ6 rfl (by kernel_rfl) rfl rfl (Cz (j:=0) (v:=v51) ⟨_,Ab Tryd.typeInfo24,rfl⟩ rfl rfl (Grow.single G51) rfl (Nat.le_of_ble_eq_true rfl) ⟨l52,?_⟩)
    refine Ec rfl ?_
    apply k17
    refine Ag rfl rfl ?_
    refine Aa rfl (Ah (v:=(iV ((i:Int)))) h22_6) ?_
    refine Aa rfl (Br (p:=(i:Int)) (q:=1) rfl rfl (z:=(((i + 1):Nat):Int)) (Bo (by first | rfl | omega | (push_cast; rfl)) (by omega) (by omega))) ?_
    refine l_A (iV ((((i + 1):Nat):Int))) rfl rfl ?_
    refine Bj (σ':=(gr51 ++ ((k5,Res.obj (Obj.cells [c6_0,c6_1,c6_2,v51].toArray 26 (0,0))) :: σ))) (Arx (List.perm_append_comm_assoc ([(k5,Res.obj (Obj.cells [c6_0,c6_1,c6_2,v51].toArray 26 (0,0)))]) gr51 _)) ?_
    apply Ac
    refine ⟨_,?_,((i + 1)),v51,gr51,rfl,rfl,(Arz l10 l52),rfl,h22_1,h22_2,h22_5,rfl,(by omega),(Ga (by rw [filter_take ha21,← Aiw ok ha21,← (show a21.sellers.take k = a21.sellers by rw [List.take_of_length_le (by omega)]),← p22_1,b45]; simp) G51),trivial⟩
    omega
   ·refine Bi (α:=Sale) (xs:=[a21]) (vs:=[v49]) Tryd.underlying24 Su Aeo rfl (by decide) (Dl (os:=[.tmp 56]) ⟨rfl,trivial⟩) ⟨r49,trivial⟩ rfl (by decide) fun k53 cs53 R53=>⟨Ary,?_⟩
    have G53:Grow ρ10 59 (.slice (some ⟨k53,0,none⟩) 1 1) ([a21]:List Sale) [(k53,.obj (.cells cs53.toArray 59 (0,0)))]:=Bs R53 rfl (by decide)
    refine Ej (σ':=((k5,Res.obj (Obj.cells [c6_0,c6_1,c6_2,ov10_5c3].toArray 26 (0,0))) :: ([(k53,.obj (.cells cs53.toArray 59 (0,0)))] ++ (og10_5c3 ++ σ)))) (Arx (List.perm_append_comm_assoc ([(k53,.obj (.cells cs53.toArray 59 (0,0)))]) ([(k5,Res.obj (Obj.cells [c6_0,c6_1,c6_2,ov10_5c3].toArray 26 (0,0)))]) _)) id ?_
    refine Dj (i:=1) zZ3 rfl (by kernel_rfl) rfl rfl (Dt (i:=0) (v:=ov10_5c3) ⟨_,Tryd.underlying24,rfl⟩ rfl rfl rfl ⟨Ary,?_⟩)
    refine Ej (σ':=([(k53,.obj (.cells cs53.toArray 59 (0,0)))] ++ ((k5,Res.obj (Obj.cells [c6_0,c6_1,c6_2,ov10_5c3].toArray 26 (0,0))) :: (og10_5c3 ++ σ)))) (Arx (List.perm_append_comm_assoc ([(k5,Res.obj (Obj.cells [c6_0,c6_1,c6_2,ov10_5c3].toArray 26 (0,0)))]) ([(k53,.obj (.cells cs53.toArray 59 (0,0)))]) _)) id ?_
    refine Ls G53 fun ρ55 l55 r55=>?_
    replace r2:=Arv l55 r2
    replace i6_1:=Asa l55 i6_1
    replace i6_2:=Asa l55 i6_2
    replace i6_3:=Asa l55 i6_3
    replace OG10_5c3:=Grow.mono l55 OG10_5c3
    replace r46:=Arv l55 r46
    replace r47:=Asa l55 r47
    replace r48:=Arv l55 r48
    replace r49:=Asa l55 r49
    refine Ej (σ':=(og10_5c3 ++ ((k5,Res.obj (Obj.cells [c6_0,c6_1,c6_2,ov10_5c3].toArray 26 (0,0))) :: σ))) (Arx (List.perm_append_comm_assoc ([(k5,Res.obj (Obj.cells [c6_0,c6_1,c6_2,ov10_5c3].toArray 26 (0,0)))]) og10_5c3 _)) id ?_
    refine Dj (i:=8) zZ4 rfl (by kernel_rfl) rfl rfl (Fx (σ:=((k5,Res.obj (Obj.cells [c6_0,c6_1,c6_2,ov10_5c3].toArray 26 (0,0))) :: σ)) (gr:=og10_5c3) (xs:=(m.sales.take i).filter (fun s=>!Je set s)) (ys:=([a21]:List Sale)) Tryd.underlying24 Tryd.underlying24 (Ab Tryd.typeInfo59) rfl (Nat.le_of_ble_eq_true rfl) rfl rfl rfl rfl OG10_5c3 r55 (by have h1:=List.length_filter_le (fun s=>!Je set s) (m.sales.take i); simp only [List.length_append,List.length_cons,List.length_nil,List.length_take] at *; omega) fun v54 gr54 G54=>⟨l55,?_⟩)
    refine Bg (i:=9) zZ5 rfl (by kernel_rfl) rfl l55 rfl (Cb Tryd.underlying26 rfl rfl ⟨_,Ab Tryd.typeInfo24,rfl⟩ (by decide) h22_5 rfl) ?_
    refine Ej (σ':=((k5,Res.obj (Obj.cells [c6_0,c6_1,c6_2,ov10_5c3].toArray 26 (0,0))) :: (gr54 ++ σ))) (Arx (List.perm_append_comm_assoc gr54 ([(k5,Res.obj (Obj.cells [c6_0,c6_1,c6_2,ov10_5c3].toArray 26 (0,0)))]) _)) id ?_
    refine Fi (i:=10) zZ6 rfl (by kernel_rfl) rfl rfl (Cz (j:=0) (v:=v54) ⟨_,Ab Tryd.typeInfo24,rfl⟩ rfl rfl (Grow.single G54) rfl (Nat.le_of_ble_eq_true rfl) ⟨l55,?_⟩)
    refine Ec rfl ?_
    apply k17
    refine Ag rfl rfl ?_
    refine Aa rfl (Ah (v:=(iV ((i:Int)))) h22_6) ?_
    refine Aa rfl (Br (p:=(i:Int)) (q:=1) rfl rfl (z:=(((i + 1):Nat):Int)) (Bo (by first | rfl | omega | (push_cast; rfl)) (by omega) (by omega))) ?_
    refine l_A (iV ((((i + 1):Nat):Int))) rfl rfl ?_
    refine Bj (σ':=(gr54 ++ ((k5,Res.obj (Obj.cells [c6_0,c6_1,c6_2,v54].toArray 26 (0,0))) :: σ))) (Arx (List.perm_append_comm_assoc ([(k5,Res.obj (Obj.cells [c6_0,c6_1,c6_2,v54].toArray 26 (0,0)))]) gr54 _)) ?_
    apply Ac
    refine ⟨_,?_,((i + 1)),v54,gr54,rfl,rfl,(Arz l10 l55),rfl,h22_1,h22_2,h22_5,rfl,(by omega),(Ga (by rw [filter_take ha21,← Aiw ok ha21,← (show a21.sellers.take k = a21.sellers by rw [List.take_of_length_le (by omega)]),← p22_1,b45]; simp) G54),trivial⟩
    omega
  have b56:=not_eq_f b44
  refine Al ?_
  apply k17
  refine Ag rfl rfl ?_
  refine Aa rfl (Ah (v:=(iV ((i:Int)))) h22_6) ?_
  refine Aa rfl (Br (p:=(i:Int)) (q:=1) rfl rfl (z:=(((i + 1):Nat):Int)) (Bo (by first | rfl | omega | (push_cast; rfl)) (by omega) (by omega))) ?_
  refine l_A (iV ((((i + 1):Nat):Int))) rfl rfl ?_
  apply Ac
  refine ⟨_,?_,((i + 1)),ov10_5c3,og10_5c3,rfl,rfl,l10,rfl,h22_1,h22_2,h22_5,rfl,(by omega),(Ga (by rw [filter_take ha21,← Aiw ok ha21,← (show a21.sellers.take k = a21.sellers by rw [List.take_of_length_le (by omega)]),← p22_1,b56]; simp) OG10_5c3),trivial⟩
  omega
 have q16:=of_decide_eq_false b16
 refine Bx ?_
 apply k8
 refine w_q rfl rfl fun K57 k57=>?_
 refine Ca OG10_5c3 fun ρ58 l58 r58=>?_
 replace r2:=Arv l58 r2
 replace i6_1:=Asa l58 i6_1
 replace i6_2:=Asa l58 i6_2
 replace i6_3:=Asa l58 i6_3
 refine Ae rfl (Xt (i:=0) (cs:=[c6_0,c6_1,c6_2,ov10_5c3]) (rs:=[]) ⟨_,Tryd.underlying26,rfl⟩ ⟨_,Ab Tryd.typeInfo26,rfl⟩ h10_5 rfl rfl rfl ?_)
 have r59:Val ρ58 (.agg #[c6_0,c6_1,c6_2,ov10_5c3]) (⟨m.houses,m.marks,m.fields,(m.sales.take i).filter (fun s=>!Je set s)⟩:Market):=Market.shut (x:=(⟨m.houses,m.marks,m.fields,(m.sales.take i).filter (fun s=>!Je set s)⟩:Market)) i6_1 i6_2 i6_3 r58
 refine Ae rfl (Cm (vs:=[(.agg #[c6_0,c6_1,c6_2,ov10_5c3])]) (c_refExcess r59) Tryd.func42 rfl rfl ⟨rfl,trivial⟩ fun w60 ρ60 σ60 hc60=>?_)
 obtain ⟨l60,s60,v60_0,w60e,r60_0⟩:=hc60
 replace s60:=s60.symm; subst s60 w60e
 replace r2:=Arv l60 r2
 replace i6_1:=Asa l60 i6_1
 replace i6_2:=Asa l60 i6_2
 replace i6_3:=Asa l60 i6_3
 replace r58:=Asa l60 r58
 replace r59:=Asa l60 r59
 refine l_M (.tuple #[(iV (Aik ((⟨m.houses,m.marks,m.fields,(m.sales.take i).filter (fun s=>!Je set s)⟩:Market)))),v60_0,(iV (Ch ((⟨m.houses,m.marks,m.fields,(m.sales.take i).filter (fun s=>!Je set s)⟩:Market))))]) rfl rfl ?_
 refine Aa rfl (Bk (vs:=#[(iV (Aik ((⟨m.houses,m.marks,m.fields,(m.sales.take i).filter (fun s=>!Je set s)⟩:Market)))),v60_0,(iV (Ch ((⟨m.houses,m.marks,m.fields,(m.sales.take i).filter (fun s=>!Je set s)⟩:Market))))]) rfl (v:=(iV (Aik ((⟨m.houses,m.marks,m.fields,(m.sales.take i).filter (fun s=>!Je set s)⟩:Market))))) rfl) ?_
 refine Aa rfl (Bk (vs:=#[(iV (Aik ((⟨m.houses,m.marks,m.fields,(m.sales.take i).filter (fun s=>!Je set s)⟩:Market)))),v60_0,(iV (Ch ((⟨m.houses,m.marks,m.fields,(m.sales.take i).filter (fun s=>!Je set s)⟩:Market))))]) rfl (v:=v60_0) rfl) ?_
 refine Aa rfl (Bk (vs:=#[(iV (Aik ((⟨m.houses,m.marks,m.fields,(m.sales.take i).filter (fun s=>!Je set s)⟩:Market)))),v60_0,(iV (Ch ((⟨m.houses,m.marks,m.fields,(m.sales.take i).filter (fun s=>!Je set s)⟩:Market))))]) rfl (v:=(iV (Ch ((⟨m.houses,m.marks,m.fields,(m.sales.take i).filter (fun s=>!Je set s)⟩:Market))))) rfl) ?_
 refine l_A (iV (Aik ((⟨m.houses,m.marks,m.fields,(m.sales.take i).filter (fun s=>!Je set s)⟩:Market)))) rfl rfl ?_
 refine l_A v60_0 rfl rfl ?_
 refine l_A (iV (Ch ((⟨m.houses,m.marks,m.fields,(m.sales.take i).filter (fun s=>!Je set s)⟩:Market)))) rfl rfl ?_
 apply Ac
 apply k57
 refine w_q rfl rfl fun K61 k61=>?_
 refine l_M (iV (Aik ((⟨m.houses,m.marks,m.fields,(m.sales.take i).filter (fun s=>!Je set s)⟩:Market)))) rfl rfl ?_
 refine Aa rfl (Ek (p:=Aik ((⟨m.houses,m.marks,m.fields,(m.sales.take i).filter (fun s=>!Je set s)⟩:Market))) (q:=0) rfl rfl) ?_
 refine l_A (.bool (Aik ((⟨m.houses,m.marks,m.fields,(m.sales.take i).filter (fun s=>!Je set s)⟩:Market)) == 0)) rfl rfl ?_
 apply Ac
 apply k61
 refine Aj Ghost.drop ?_
 refine Aj (Arw (Arz (Arz (Arz l2 l10) l58) l60)) ?_
 refine Aq ?_
 refine hret _ _ _ ?_
 refine ⟨rfl,rfl,Eq.trans (b:=(.bool (Aik ((⟨m.houses,m.marks,m.fields,(m.sales.take i).filter (fun s=>!Je set s)⟩:Market)) == 0))) rfl ?_⟩
 rw [← enough_exc hm,rest,show i = m.sales.length by omega,List.take_length]
set_option maxRecDepth 100000 in
theorem c_refCheats {mn:Bool} {X:Frame→List Frame→Ro→Own→Cy→Prop} {ρ:Ro} {σ:Own} {m:Market} {vm:Value} (rm:Val ρ vm m):CallsH (CX mn X) 46 #[vm] ρ σ (fun w ρ' σ'=>Ro.le ρ ρ'∧σ' = σ∧∃ v0,w = (.tuple #[(iV (Akj m)),v0,(iV (Ch m))])∧Val ρ' v0 (Alc m:List Int)):=by
 refine Bh (n:=93) (args:=[vm]) [2,3,4] Tryd.func46 rfl rfl rfl rfl fun Q hret hnor=>?_
 refine w_q rfl rfl fun K1 k1=>?_
 refine Ae rfl (Eb (v:=vm) rfl fun k2=>?_)
 refine Bb (a:=m) rm fun ρ2 l2 r2=>?_
 replace rm:=Asa l2 rm
 refine l_A (iV (0)) rfl rfl ?_
 refine l_A (.slice none 0 0) rfl rfl ?_
 refine l_A (iV (0)) rfl rfl ?_
 apply Ac
 apply k1
 refine Ai fun K3 k3=>?_
 refine w_q rfl rfl fun K4 k4=>?_
 refine Ak rfl (Ax Lj rfl r2) fun v5 r5=>?_
 refine Ae rfl (Bn (vs:=[v5]) (v:=(iV (Ch m))) (c_CheckMarket r5) Tryd.func28 rfl rfl ⟨rfl,trivial⟩ ?_)
 refine l_A (iV (Ch m)) rfl rfl ?_
 apply Ac
 apply k4
 refine w_q rfl rfl fun K6 k6=>?_
 refine l_M (iV (Ch m)) rfl rfl ?_
 refine Aa rfl (Dg (p:=Ch m) (q:=0) rfl rfl) ?_
 apply Ac
 apply k6
 refine As (t:=Ch m != 0) rfl (fun b7=>?_) (fun b7=>?_)
 ·have q7:=Mb b7
  refine w_q rfl rfl fun K8 k8=>?_
  refine l_M (iV (Ch m)) rfl rfl ?_
  refine l_A (iV (0)) rfl rfl ?_
  refine l_A (.slice none 0 0) rfl rfl ?_
  refine l_A (iV (Ch m)) rfl rfl ?_
  apply Ac
  apply k8
  refine Aq ?_
  refine hret _ _ _ ?_
  refine ⟨l2,rfl,(.slice none 0 0),Eq.trans (b:=(.tuple #[(iV (0)),(.slice none 0 0),(iV (Ch m))])) (Mk (r:=2) (r':=3) (rs:=[4]) (v:=(iV (0))) (v':=(.slice none 0 0)) (vs:=[(iV (Ch m))]) ⟨rfl,rfl,rfl,trivial⟩) ?_,Val.cast ?_ Gx⟩
  ·rw [Akj,if_neg q7]
  ·rw [Alc,if_neg q7]
 have q7:=Jh b7
 refine Al ?_
 apply k3
 refine Ai fun K9 k9=>?_
 refine w_q rfl rfl fun K10 k10=>?_
 refine l_A (iV (0)) rfl rfl ?_
 apply Ac
 apply k10
 refine Ao ?_
 have hm:=q7
 have ok:=Qv hm
 have hh5:=Hp ok
 have hsh:=Ame hh5
 refine Cc (fun mm ee dd ρ' σ'=>∃ (n:Nat),(m.houses.length + 1 - n) = mm∧[] = dd∧ρ2 = ρ'∧σ = σ'∧ee 1 = (.pointer (some ⟨k2,0,none⟩))∧ee 6 = (iV ((n:Int)))∧(n ≤ m.houses.length + 1)∧(∀ j,j < n→(lv m j).length = 0)∧True) (m:=_) ⟨0,rfl,rfl,rfl,rfl,rfl,rfl,(Nat.zero_le _),(fun j h=>absurd h (Nat.not_lt_zero _)),trivial⟩ ?_
 rintro m11 e11 _ _ _ ⟨n,rfl,rfl,rfl,rfl,h11_1,h11_6,p11_0,p11_1,_⟩
 refine Ai fun K12 k12=>?_
 refine w_q rfl rfl fun K13 k13=>?_
 refine Aa rfl (Ah (v:=(iV ((n:Int)))) h11_6) ?_
 refine Ak rfl (Ay Market.f_houses Tryd.underlying26 rfl rfl Hu (by decide) h11_1 r2) fun v14 r14=>?_
 refine Ak rfl (Ax Hu rfl r14) fun v15 r15=>?_
 have g16:=Val.len r15
 refine Aa rfl (Ce (el:=9) Tryd.underlying22 rfl r15) ?_
 refine Aa rfl (Tx (p:=(n:Int)) (q:=((m.houses.length:Nat):Int)) rfl rfl) ?_
 apply Ac
 apply k13
 refine As (t:=decide ((n:Int) ≤ ((m.houses.length:Nat):Int))) rfl (fun b17=>?_) (fun b17=>?_)
 ·have q17:=of_decide_eq_true b17
  refine Al ?_
  apply k12
  refine Ai fun K18 k18=>?_
  refine Ao ?_
  refine w_q rfl rfl fun K19 k19=>?_
  refine l_A (iV (0)) rfl rfl ?_
  apply Ac
  apply k19
  refine w_q rfl rfl fun K20 k20=>?_
  refine Ak rfl (Ay Market.f_houses Tryd.underlying26 rfl rfl Hu (by decide) h11_1 r2) fun v21 r21=>?_
  refine Ak rfl (Ax Hu rfl r21) fun v22 r22=>?_
  have g23:=Val.len r22
  refine Aa rfl (Ce (el:=9) Tryd.underlying22 rfl r22) ?_
  refine Ae rfl (w_makeInts (n:=m.houses.length) Tryd.underlying30 (Ab Tryd.typeInfo3) rfl (Nat.le_of_ble_eq_true rfl) rfl rfl rfl (by omega) fun k24=>?_)
  refine l_A (.slice (some ⟨k24,0,none⟩) m.houses.length m.houses.length) rfl rfl ?_
  apply Ac
  apply k20
  refine Ai fun K25 k25=>?_
  refine w_q rfl rfl fun K26 k26=>?_
  refine l_A (iV (0)) rfl rfl ?_
  apply Ac
  apply k26
  refine Ao ?_
  refine Cc (fun mm ee dd ρ' σ'=>∃ (i:Nat) (c:Nat) (rx27_8:List Int),((1 <<< m.houses.length) - i) = mm∧[] = dd∧ρ2 = ρ'∧((k24,Res.obj (Obj.cells (rx27_8.map (Value.int .i64)).toArray 3 (0,0))) :: σ) = σ'∧ee 1 = (.pointer (some ⟨k2,0,none⟩))∧ee 6 = (iV ((n:Int)))∧ee 7 = (iV ((c:Int)))∧ee 8 = (.slice (some ⟨k24,0,none⟩) m.houses.length m.houses.length)∧ee 9 = (iV ((i:Int)))∧(i ≤ 1 <<< m.houses.length)∧(c = (Aoo m n i).length)∧(c ≤ i)∧rx27_8 = timesRow m n i 0∧rx27_8.length = m.houses.length∧True) (m:=_) ⟨0,0,(List.replicate m.houses.length (0:Int)),rfl,rfl,rfl,rfl,h11_1,h11_6,rfl,rfl,rfl,(Nat.zero_le _),(by simp [Aoo]),(Nat.zero_le _),(times_nil),(List.length_replicate),trivial⟩ ?_
  rintro m27 e27 _ _ _ ⟨i,c,rx27_8,rfl,rfl,rfl,rfl,h27_1,h27_6,h27_7,h27_8,h27_9,p27_0,p27_1,p27_2,RX27_8,RL27_8,_⟩
  refine Ai fun K28 k28=>?_
  refine w_q rfl rfl fun K29 k29=>?_
  refine Aa rfl (Ah (v:=(iV ((i:Int)))) h27_9) ?_
  refine Ak rfl (Ay Market.f_houses Tryd.underlying26 rfl rfl Hu (by decide) h27_1 r2) fun v30 r30=>?_
  refine Ak rfl (Ax Hu rfl r30) fun v31 r31=>?_
  have g32:=Val.len r31
  refine Aa rfl (Ce (el:=9) Tryd.underlying22 rfl r31) ?_
  refine Aa rfl (Ly (p:=1) (q:=m.houses.length) rfl rfl rfl (by omega) (z:=(((1 <<< m.houses.length):Nat):Int)) (Bo rfl (by omega) (by omega))) ?_
  refine Aa rfl (Da (p:=(i:Int)) (q:=(((1 <<< m.houses.length):Nat):Int)) rfl rfl) ?_
  apply Ac
  apply k29
  refine As (t:=decide ((i:Int) < (((1 <<< m.houses.length):Nat):Int))) rfl (fun b33=>?_) (fun b33=>?_)
  ·have q33:=of_decide_eq_true b33
   refine Al ?_
   apply k28
   refine Ai fun K34 k34=>?_
   refine Ao ?_
   refine Ai fun K35 k35=>?_
   refine w_q rfl rfl fun K36 k36=>?_
   refine Aa rfl (Ah (v:=(iV ((i:Int)))) h27_9) ?_
   refine Ae rfl (Bn (vs:=[(iV ((i:Int)))]) (v:=(iV (((De i:Nat):Int)))) (c_size (by omega)) Tryd.func99 rfl rfl ⟨rfl,trivial⟩ ?_)
   refine Aa rfl (Ah (v:=(iV ((n:Int)))) h27_6) ?_
   refine Aa rfl (Dg (p:=((De i:Nat):Int)) (q:=(n:Int)) rfl rfl) ?_
   refine l_M (.bool (((De i:Nat):Int) != (n:Int))) rfl rfl ?_
   refine Cn (((De i:Nat):Int) != (n:Int)) (fun b37=>?_) (fun b37=>?_)
   ·have hinb37:((De i == n) && Fk m i) = false:=by have:=Mb b37; simp; intro h; omega
    have q37:=Mb b37
    refine Ap (Bl rfl rfl rfl b37) ?_
    refine Ap (Bl rfl rfl rfl b37) ?_
    refine Ap (Bl rfl rfl rfl b37) ?_
    refine Ap (Bl rfl rfl rfl b37) ?_
    refine Aa rfl (Bt rfl b37 (v:=(.bool (true))) rfl) ?_
    apply Ac
    apply k36
    refine Co rfl rfl ?_
    refine Bx ?_
    apply k34
    refine Ag rfl rfl ?_
    refine Aa rfl (Ah (v:=(iV ((i:Int)))) h27_9) ?_
    refine Aa rfl (Br (p:=(i:Int)) (q:=1) rfl rfl (z:=(((i + 1):Nat):Int)) (Bo (by first | rfl | omega | (push_cast; rfl)) (by omega) (by omega))) ?_
    refine l_A (iV ((((i + 1):Nat):Int))) rfl rfl ?_
    apply Ac
    refine ⟨_,?_,((i + 1)),(c),rx27_8,rfl,rfl,rfl,rfl,h27_1,h27_6,h27_7,h27_8,rfl,(by omega),(by rw [lvTo_succ,hinb37,p27_1]; simp),(by omega),(by rw [RX27_8,times_out hinb37]),RL27_8,trivial⟩
    omega
   have q37:=Jh b37
   refine Ak (Ar rfl rfl rfl b37) (Ax Lj h27_1 r2) fun v38 r38=>?_
   refine Aa (Ar rfl rfl rfl b37) (Ah (v:=(iV ((i:Int)))) h27_9) ?_
   refine Ae (Ar rfl rfl rfl b37) (Bn (vs:=[v38,(iV ((i:Int)))]) (v:=(.bool (Fk m i))) (c_refEnough r38 hm (by omega)) Tryd.func100 rfl rfl ⟨rfl,rfl,trivial⟩ ?_)
   refine Aa (Ar rfl rfl rfl b37) (Ix (k:=Fk m i) rfl) ?_
   refine Aa rfl (Bm rfl b37 (v:=(.bool (!(Fk m i)))) rfl) ?_
   apply Ac
   apply k36
   refine As (t:=!(Fk m i)) rfl (fun b39=>?_) (fun b39=>?_)
   ·have b40:=not_eq_t b39
    have hinb40:((De i == n) && Fk m i) = false:=by (have h1:=Jh b37; have h2:De i = n:=by omega); (rw [h2,b40]; simp)
    refine Bx ?_
    apply k34
    refine Ag rfl rfl ?_
    refine Aa rfl (Ah (v:=(iV ((i:Int)))) h27_9) ?_
    refine Aa rfl (Br (p:=(i:Int)) (q:=1) rfl rfl (z:=(((i + 1):Nat):Int)) (Bo (by first | rfl | omega | (push_cast; rfl)) (by omega) (by omega))) ?_
    refine l_A (iV ((((i + 1):Nat):Int))) rfl rfl ?_
    apply Ac
    refine ⟨_,?_,((i + 1)),(c),rx27_8,rfl,rfl,rfl,rfl,h27_1,h27_6,h27_7,h27_8,rfl,(by omega),(by rw [lvTo_succ,hinb40,p27_1]; simp),(by omega),(by rw [RX27_8,times_out hinb40]),RL27_8,trivial⟩
    omega
   have b41:=not_eq_f b39
   have hinb41:((De i == n) && Fk m i) = true:=by (have h1:=Jh b37; have h2:De i = n:=by omega); (rw [h2,b41]; simp)
   refine Al ?_
   apply k35
   refine w_q rfl rfl fun K42 k42=>?_
   refine Aa rfl (Ah (v:=(iV ((c:Int)))) h27_7) ?_
   refine Aa rfl (Br (p:=(c:Int)) (q:=1) rfl rfl (z:=(((c + 1):Nat):Int)) (Bo (by first | rfl | omega | (push_cast; rfl)) (by omega) (by omega))) ?_
   refine l_A (iV ((((c + 1):Nat):Int))) rfl rfl ?_
   apply Ac
   apply k42
   refine w_q rfl rfl fun K43 k43=>?_
   refine l_A (iV (0)) rfl rfl ?_
   apply Ac
   apply k43
   refine Ao ?_
   refine Cc (fun mm ee dd ρ' σ'=>∃ (h:Nat) (rx44_8:List Int),(m.houses.length - h) = mm∧[] = dd∧ρ2 = ρ'∧((k24,Res.obj (Obj.cells (rx44_8.map (Value.int .i64)).toArray 3 (0,0))) :: σ) = σ'∧ee 1 = (.pointer (some ⟨k2,0,none⟩))∧ee 6 = (iV ((n:Int)))∧ee 7 = (iV ((((c + 1):Nat):Int)))∧ee 9 = (iV ((i:Int)))∧ee 8 = (.slice (some ⟨k24,0,none⟩) m.houses.length m.houses.length)∧ee 10 = (iV ((h:Int)))∧(h ≤ m.houses.length)∧rx44_8 = timesRow m n i h∧rx44_8.length = m.houses.length∧True) (m:=_) ⟨0,rx27_8,rfl,rfl,rfl,rfl,h27_1,h27_6,rfl,h27_9,h27_8,rfl,(Nat.zero_le _),(RX27_8),RL27_8,trivial⟩ ?_
   rintro m44 e44 _ _ _ ⟨h,rx44_8,rfl,rfl,rfl,rfl,h44_1,h44_6,h44_7,h44_9,h44_8,h44_10,p44_0,RX44_8,RL44_8,_⟩
   refine Ai fun K45 k45=>?_
   refine w_q rfl rfl fun K46 k46=>?_
   refine Aa rfl (Ah (v:=(iV ((h:Int)))) h44_10) ?_
   refine Aa rfl (Ah (v:=(.slice (some ⟨k24,0,none⟩) m.houses.length m.houses.length)) h44_8) ?_
   refine Aa rfl (y_lenS (el:=3) Tryd.underlying30 rfl) ?_
   refine Aa rfl (Da (p:=(h:Int)) (q:=((m.houses.length:Nat):Int)) rfl rfl) ?_
   apply Ac
   apply k46
   refine As (t:=decide ((h:Int) < ((m.houses.length:Nat):Int))) rfl (fun b47=>?_) (fun b47=>?_)
   ·have q47:=of_decide_eq_true b47
    refine Al ?_
    apply k45
    refine Ai fun K48 k48=>?_
    refine Ao ?_
    refine Dc [0,1,2,3,4,5,6,7,8,9,10,11,12] (by kernel_rfl) rfl rfl ?_
    refine Be (i:=0) [o1,o0,o0,o0,o0,o0,o0,o0,o0,o0,o0,o0,o0] rfl (by kernel_rfl) rfl Ary rfl (Ah (v:=(.slice (some ⟨k24,0,none⟩) m.houses.length m.houses.length)) h44_8) ?_
    refine Be (i:=1) [o1,o1,o0,o0,o0,o0,o0,o0,o0,o0,o0,o0,o0] rfl (by kernel_rfl) rfl Ary rfl (Ah (v:=(iV ((h:Int)))) h44_10) ?_
    refine Be (i:=2) [o1,o1,o1,o0,o0,o0,o0,o0,o0,o0,o0,o0,o0] rfl (by kernel_rfl) rfl Ary rfl (Ah (v:=(.slice (some ⟨k24,0,none⟩) m.houses.length m.houses.length)) h44_8) ?_
    refine Be (i:=3) [o1,o1,o1,o1,o0,o0,o0,o0,o0,o0,o0,o0,o0] rfl (by kernel_rfl) rfl Ary rfl (Ah (v:=(iV ((h:Int)))) h44_10) ?_
    refine Be (i:=4) [o1,o1,o1,o1,o1,o0,o0,o0,o0,o0,o0,o0,o0] rfl (by kernel_rfl) rfl Ary rfl (Aed (k':=1) h Tryd.underlying30 ⟨_,Ab Tryd.typeInfo3,rfl⟩ rfl (q:=(h:Int)) rfl rfl (by omega) (off':=h) (by omega)) ?_
    refine Be (i:=6) [o1,o1,o1,o1,o1,o0,o1,o0,o0,o0,o0,o0,o0] rfl (by kernel_rfl) rfl Ary rfl (Ah (v:=(iV ((i:Int)))) h44_9) ?_
    refine Be (i:=7) [o1,o1,o1,o1,o1,o0,o1,o1,o0,o0,o0,o0,o0] rfl (by kernel_rfl) rfl Ary rfl (Ah (v:=(iV ((h:Int)))) h44_10) ?_
    refine Be (i:=8) [o1,o1,o1,o1,o1,o0,o1,o1,o1,o0,o0,o0,o0] rfl (by kernel_rfl) rfl Ary rfl (Jq (p:=i) (q:=h) rfl rfl rfl (by omega)) ?_
    refine Be (i:=9) [o1,o1,o1,o1,o1,o0,o1,o1,o1,o1,o0,o0,o0] rfl (by kernel_rfl) rfl Ary rfl (y_rem (p:=(((i >>> h):Nat):Int)) (q:=2) rfl rfl (by omega) (z:=((((i >>> h) % 2):Nat):Int)) rfl) ?_
    obtain ⟨a49,ha49⟩:=Ed (xs:=rx44_8) (i:=h) (by rw [RL44_8]; omega)
    have hz50:=ha49
    rw [RX44_8] at hz50
    have hy50:=times_get hz50
    have hw50:=Ahm (l:=Aoo m n i) (k:=h)
    have hv50:=lvTo_lt (m:=m) (n:=n) (i:=i)
    have hu50:=Nat.mod_lt (i >>> h) (show 0 < 2 by omega)
    rw [if_neg (Nat.lt_irrefl _),Nat.add_zero] at hy50
    refine Dj (i:=5) [o1,o1,o1,o1,o1,o1,o1,o1,o1,o1,o0,o0,o0] rfl (by kernel_rfl) rfl rfl (Act (j:=0) (f:=(Value.int .i64)) (i:=h) (bv:=a49) ⟨_,Tryd.underlying3,rfl⟩ rfl rfl ha49 ⟨Ary,?_⟩)
    refine Bg (i:=10) [o1,o1,o1,o1,o1,o1,o1,o1,o1,o1,o1,o0,o0] rfl (by kernel_rfl) rfl Ary rfl (Br (p:=a49) (q:=((((i >>> h) % 2):Nat):Int)) rfl rfl (z:=(a49 + ((((i >>> h) % 2):Nat):Int))) (Bo (by rfl) (by omega) (by omega))) ?_
    refine Bg (i:=11) [o1,o1,o1,o1,o1,o1,o1,o1,o1,o1,o1,o1,o0] rfl (by kernel_rfl) rfl Ary rfl (Aed (k':=1) h Tryd.underlying30 ⟨_,Ab Tryd.typeInfo3,rfl⟩ rfl (q:=(h:Int)) rfl rfl (by omega) (off':=h) (by omega)) ?_
    refine Fi (i:=12) [o1,o1,o1,o1,o1,o1,o1,o1,o1,o1,o1,o1,o1] rfl (by kernel_rfl) rfl rfl (Zp (j:=0) (f:=(Value.int .i64)) (i:=h) (bv:=(a49 + ((((i >>> h) % 2):Nat):Int))) ⟨_,Ab Tryd.typeInfo3,rfl⟩ rfl rfl rfl rfl (by rw [RL44_8]; omega) ⟨Ary,?_⟩)
    refine Ec rfl ?_
    apply k48
    refine Ag rfl rfl ?_
    refine Aa rfl (Ah (v:=(iV ((h:Int)))) h44_10) ?_
    refine Aa rfl (Br (p:=(h:Int)) (q:=1) rfl rfl (z:=(((h + 1):Nat):Int)) (Bo (by first | rfl | omega | (push_cast; rfl)) (by omega) (by omega))) ?_
    refine l_A (iV ((((h + 1):Nat):Int))) rfl rfl ?_
    apply Ac
    refine ⟨_,?_,((h + 1)),(rx44_8.set h ((a49 + ((((i >>> h) % 2):Nat):Int)))),rfl,rfl,rfl,rfl,h44_1,h44_6,h44_7,h44_9,h44_8,rfl,(by omega),(by rw [RX44_8] at ha49 ⊢; rw [times_set ha49]),(List.length_set.trans RL44_8),trivial⟩
    omega
   have q47:=of_decide_eq_false b47
   refine Bx ?_
   apply k34
   refine Ag rfl rfl ?_
   refine Aa rfl (Ah (v:=(iV ((i:Int)))) h44_9) ?_
   refine Aa rfl (Br (p:=(i:Int)) (q:=1) rfl rfl (z:=(((i + 1):Nat):Int)) (Bo (by first | rfl | omega | (push_cast; rfl)) (by omega) (by omega))) ?_
   refine l_A (iV ((((i + 1):Nat):Int))) rfl rfl ?_
   apply Ac
   refine ⟨_,?_,((i + 1)),((c + 1)),rx44_8,rfl,rfl,rfl,rfl,h44_1,h44_6,h44_7,h44_8,rfl,(by omega),(by rw [lvTo_succ,hinb41,p27_1]; simp),(by omega),(by rw [RX44_8,show h = m.houses.length by omega,times_in hinb41]),RL44_8,trivial⟩
   omega
  have q33:=of_decide_eq_false b33
  refine Bx ?_
  apply k25
  refine Ai fun K51 k51=>?_
  refine w_q rfl rfl fun K52 k52=>?_
  refine Aa rfl (Ah (v:=(iV ((c:Int)))) h27_7) ?_
  refine Aa rfl (Ek (p:=(c:Int)) (q:=0) rfl rfl) ?_
  apply Ac
  apply k52
  refine As (t:=(c:Int) == 0) rfl (fun b53=>?_) (fun b53=>?_)
  ·have q53:=Jo b53
   refine Bx ?_
   apply k18
   refine Ag rfl rfl ?_
   refine Aa rfl (Ah (v:=(iV ((n:Int)))) h27_6) ?_
   refine Aa rfl (Br (p:=(n:Int)) (q:=1) rfl rfl (z:=(((n + 1):Nat):Int)) (Bo (by first | rfl | omega | (push_cast; rfl)) (by omega) (by omega))) ?_
   refine l_A (iV ((((n + 1):Nat):Int))) rfl rfl ?_
   refine Bj Ghost.drop ?_
   apply Ac
   refine ⟨_,?_,((n + 1)),rfl,rfl,rfl,rfl,h27_1,rfl,(by omega),(Ef p11_1 (by rw [lv,← (show i = 1 <<< m.houses.length by omega),← p27_1]; omega)),trivial⟩
   omega
  have q53:=La b53
  refine Al ?_
  apply k51
  refine w_q rfl rfl fun K54 k54=>?_
  refine l_A (.slice none 0 0) rfl rfl ?_
  apply Ac
  apply k54
  refine Ai fun K55 k55=>?_
  refine w_q rfl rfl fun K56 k56=>?_
  refine l_A (iV (0)) rfl rfl ?_
  apply Ac
  apply k56
  refine Ao ?_
  refine Cc (fun mm ee dd ρ' σ'=>∃ (h:Nat) (ov57_11:Value) (og57_11:Own),(m.houses.length - h) = mm∧[] = dd∧Ro.le ρ2 ρ'∧(og57_11 ++ ((k24,Res.obj (Obj.cells (rx27_8.map (Value.int .i64)).toArray 3 (0,0))) :: σ)) = σ'∧ee 6 = (iV ((n:Int)))∧ee 7 = (iV ((c:Int)))∧ee 8 = (.slice (some ⟨k24,0,none⟩) m.houses.length m.houses.length)∧ee 11 = ov57_11∧ee 12 = (iV ((h:Int)))∧(h ≤ m.houses.length)∧Grow ρ' 53 ov57_11 ((List.range h).map (Pt (lv m n))) og57_11∧True) (m:=_) ⟨0,(.slice none 0 0),[],rfl,rfl,Ary,rfl,h27_6,h27_7,h27_8,rfl,rfl,(Nat.zero_le _),Hn,trivial⟩ ?_
  rintro m57 e57 _ ρ57 _ ⟨h,ov57_11,og57_11,rfl,rfl,l57,rfl,h57_6,h57_7,h57_8,h57_11,h57_12,p57_0,OG57_11,_⟩
  refine Ai fun K58 k58=>?_
  refine w_q rfl rfl fun K59 k59=>?_
  refine Aa rfl (Ah (v:=(iV ((h:Int)))) h57_12) ?_
  refine Aa rfl (Ah (v:=(.slice (some ⟨k24,0,none⟩) m.houses.length m.houses.length)) h57_8) ?_
  refine Aa rfl (y_lenS (el:=3) Tryd.underlying30 rfl) ?_
  refine Aa rfl (Da (p:=(h:Int)) (q:=((m.houses.length:Nat):Int)) rfl rfl) ?_
  apply Ac
  apply k59
  refine As (t:=decide ((h:Int) < ((m.houses.length:Nat):Int))) rfl (fun b60=>?_) (fun b60=>?_)
  ·have q60:=of_decide_eq_true b60
   refine Al ?_
   apply k58
   refine Ai fun K61 k61=>?_
   refine Ao ?_
   refine w_q rfl rfl fun K62 k62=>?_
   refine l_A (iV (0)) rfl rfl ?_
   apply Ac
   apply k62
   refine Ai fun K63 k63=>?_
   refine w_q rfl rfl fun K64 k64=>?_
   refine Aa rfl (Ah (v:=(.slice (some ⟨k24,0,none⟩) m.houses.length m.houses.length)) h57_8) ?_
   refine Aa rfl (Ah (v:=(iV ((h:Int)))) h57_12) ?_
   refine Aa rfl (Aed (k':=1) h Tryd.underlying30 ⟨_,Ab Tryd.typeInfo3,rfl⟩ rfl (q:=(h:Int)) rfl rfl (by omega) (off':=h) (by omega)) ?_
   obtain ⟨a65,ha65⟩:=Ed (xs:=rx27_8) (i:=h) (by rw [RL27_8]; omega)
   have hz66:=ha65
   rw [RX27_8] at hz66
   have hy66:=times_get hz66
   have hw66:=Ahm (l:=Aoo m n i) (k:=h)
   have hv66:=lvTo_lt (m:=m) (n:=n) (i:=i)
   have hu66:=Nat.mod_lt (i >>> h) (show 0 < 2 by omega)
   rw [if_neg (Nat.not_lt_zero _),Nat.add_zero] at hy66
   refine Bj (σ':=((k24,Res.obj (Obj.cells (rx27_8.map (Value.int .i64)).toArray 3 (0,0))) :: (og57_11 ++ σ))) (Arx (List.perm_append_comm_assoc og57_11 ([(k24,Res.obj (Obj.cells (rx27_8.map (Value.int .i64)).toArray 3 (0,0)))]) _)) ?_
   refine Ae rfl (Act (j:=0) (f:=(Value.int .i64)) (i:=h) (bv:=a65) ⟨_,Tryd.underlying3,rfl⟩ rfl rfl ha65 ?_)
   refine Aa rfl (Ah (v:=(iV ((c:Int)))) h57_7) ?_
   refine Aa rfl (Ek (p:=a65) (q:=(c:Int)) rfl rfl) ?_
   apply Ac
   apply k64
   refine As (t:=a65 == (c:Int)) rfl (fun b67=>?_) (fun b67=>?_)
   ·have q67:=Jo b67
    refine Ag rfl rfl ?_
    refine l_A (iV (1)) rfl rfl ?_
    apply Ac
    apply k63
    refine Ai fun K68 k68=>?_
    refine w_q rfl rfl fun K69 k69=>?_
    refine Aa rfl (Ah (v:=(.slice (some ⟨k24,0,none⟩) m.houses.length m.houses.length)) h57_8) ?_
    refine Aa rfl (Ah (v:=(iV ((h:Int)))) h57_12) ?_
    refine Aa rfl (Aed (k':=1) h Tryd.underlying30 ⟨_,Ab Tryd.typeInfo3,rfl⟩ rfl (q:=(h:Int)) rfl rfl (by omega) (off':=h) (by omega)) ?_
    refine Ae rfl (Act (j:=0) (f:=(Value.int .i64)) (i:=h) (bv:=a65) ⟨_,Tryd.underlying3,rfl⟩ rfl rfl ha65 ?_)
    refine Aa rfl (Ek (p:=a65) (q:=0) rfl rfl) ?_
    apply Ac
    apply k69
    refine As (t:=a65 == 0) rfl (fun b70=>?_) (fun b70=>?_)
    ·have q70:=Jo b70
     refine Ag rfl rfl ?_
     refine l_A (iV (2)) rfl rfl ?_
     apply Ac
     apply k68
     refine Ag rfl rfl ?_
     refine Aa rfl (Ah (v:=ov57_11) h57_11) ?_
     refine l_M (iV (2)) rfl rfl ?_
     refine Ae rfl (Bi (α:=Int) (xs:=[2]) (vs:=[(iV (2))]) Tryd.underlying46 Ov Abg rfl (by decide) (Dl (os:=[.tmp 88]) ⟨rfl,trivial⟩) ⟨(Cv.2 ⟨rfl,by constructor <;> omega⟩),trivial⟩ rfl (by decide) fun k71 cs71 R71=>?_)
     have G71:Grow ρ57 53 (.slice (some ⟨k71,0,none⟩) 1 1) ([2]:List Int) [(k71,.obj (.cells cs71.toArray 53 (0,0)))]:=Bs R71 rfl (by decide)
     refine Ca G71 fun ρ73 l73 r73=>?_
     replace OG57_11:=Grow.mono l73 OG57_11
     refine Bj (σ':=(og57_11 ++ ((k24,Res.obj (Obj.cells (rx27_8.map (Value.int .i64)).toArray 3 (0,0))) :: σ))) (Arx (List.perm_append_comm_assoc ([(k24,Res.obj (Obj.cells (rx27_8.map (Value.int .i64)).toArray 3 (0,0)))]) og57_11 _)) ?_
     refine Ae rfl (Fx (σ:=((k24,Res.obj (Obj.cells (rx27_8.map (Value.int .i64)).toArray 3 (0,0))) :: σ)) (gr:=og57_11) (xs:=(List.range h).map (Pt (lv m n))) (ys:=([2]:List Int)) Tryd.underlying46 Tryd.underlying46 (Ab Tryd.typeInfo53) rfl (Nat.le_of_ble_eq_true rfl) rfl rfl rfl rfl OG57_11 r73 (by simp only [List.length_map,List.length_range,List.length_append,List.length_cons,List.length_nil] at *; omega) fun v72 gr72 G72=>?_)
     refine l_A v72 rfl rfl ?_
     apply Ac
     apply k61
     refine Ag rfl rfl ?_
     refine Aa rfl (Ah (v:=(iV ((h:Int)))) h57_12) ?_
     refine Aa rfl (Br (p:=(h:Int)) (q:=1) rfl rfl (z:=(((h + 1):Nat):Int)) (Bo (by first | rfl | omega | (push_cast; rfl)) (by omega) (by omega))) ?_
     refine l_A (iV ((((h + 1):Nat):Int))) rfl rfl ?_
     apply Ac
     refine ⟨_,?_,((h + 1)),v72,gr72,rfl,rfl,(Arz l57 l73),rfl,h57_6,h57_7,h57_8,rfl,rfl,(by omega),(Ga (by
  have hi:i = 1 <<< m.houses.length:=by omega
  have hz:=ha65
  rw [RX27_8] at hz
  have hc:=times_get hz
  rw [if_neg (Nat.not_lt_zero _),Nat.add_zero,hi] at hc
  change _ = ((Jd (lv m n) h:Nat):Int) at hc
  have hlv:(lv m n).length = c:=by rw [p27_1,hi]; rfl
  have hv:Pt (lv m n) h = 2:=by unfold Pt; rw [if_pos (by omega)]
  rw [Mz,hv]) G72),trivial⟩
     omega
    have q70:=La b70
    refine Al ?_
    apply k68
    refine Ag rfl rfl ?_
    refine Aa rfl (Ah (v:=ov57_11) h57_11) ?_
    refine l_M (iV (1)) rfl rfl ?_
    refine Ae rfl (Bi (α:=Int) (xs:=[1]) (vs:=[(iV (1))]) Tryd.underlying46 Ov Abg rfl (by decide) (Dl (os:=[.tmp 88]) ⟨rfl,trivial⟩) ⟨(Cv.2 ⟨rfl,by constructor <;> omega⟩),trivial⟩ rfl (by decide) fun k74 cs74 R74=>?_)
    have G74:Grow ρ57 53 (.slice (some ⟨k74,0,none⟩) 1 1) ([1]:List Int) [(k74,.obj (.cells cs74.toArray 53 (0,0)))]:=Bs R74 rfl (by decide)
    refine Ca G74 fun ρ76 l76 r76=>?_
    replace OG57_11:=Grow.mono l76 OG57_11
    refine Bj (σ':=(og57_11 ++ ((k24,Res.obj (Obj.cells (rx27_8.map (Value.int .i64)).toArray 3 (0,0))) :: σ))) (Arx (List.perm_append_comm_assoc ([(k24,Res.obj (Obj.cells (rx27_8.map (Value.int .i64)).toArray 3 (0,0)))]) og57_11 _)) ?_
    refine Ae rfl (Fx (σ:=((k24,Res.obj (Obj.cells (rx27_8.map (Value.int .i64)).toArray 3 (0,0))) :: σ)) (gr:=og57_11) (xs:=(List.range h).map (Pt (lv m n))) (ys:=([1]:List Int)) Tryd.underlying46 Tryd.underlying46 (Ab Tryd.typeInfo53) rfl (Nat.le_of_ble_eq_true rfl) rfl rfl rfl rfl OG57_11 r76 (by simp only [List.length_map,List.length_range,List.length_append,List.length_cons,List.length_nil] at *; omega) fun v75 gr75 G75=>?_)
    refine l_A v75 rfl rfl ?_
    apply Ac
    apply k61
    refine Ag rfl rfl ?_
    refine Aa rfl (Ah (v:=(iV ((h:Int)))) h57_12) ?_
    refine Aa rfl (Br (p:=(h:Int)) (q:=1) rfl rfl (z:=(((h + 1):Nat):Int)) (Bo (by first | rfl | omega | (push_cast; rfl)) (by omega) (by omega))) ?_
    refine l_A (iV ((((h + 1):Nat):Int))) rfl rfl ?_
    apply Ac
    refine ⟨_,?_,((h + 1)),v75,gr75,rfl,rfl,(Arz l57 l76),rfl,h57_6,h57_7,h57_8,rfl,rfl,(by omega),(Ga (by
  have hi:i = 1 <<< m.houses.length:=by omega
  have hz:=ha65
  rw [RX27_8] at hz
  have hc:=times_get hz
  rw [if_neg (Nat.not_lt_zero _),Nat.add_zero,hi] at hc
  change _ = ((Jd (lv m n) h:Nat):Int) at hc
  have hlv:(lv m n).length = c:=by rw [p27_1,hi]; rfl
  have hv:Pt (lv m n) h = 1:=by unfold Pt; rw [if_neg (by omega),if_pos (by rw [hlv]; omega)]
  rw [Mz,hv]) G75),trivial⟩
    omega
   have q67:=La b67
   refine Al ?_
   apply k63
   refine Ai fun K77 k77=>?_
   refine w_q rfl rfl fun K78 k78=>?_
   refine Aa rfl (Ah (v:=(.slice (some ⟨k24,0,none⟩) m.houses.length m.houses.length)) h57_8) ?_
   refine Aa rfl (Ah (v:=(iV ((h:Int)))) h57_12) ?_
   refine Aa rfl (Aed (k':=1) h Tryd.underlying30 ⟨_,Ab Tryd.typeInfo3,rfl⟩ rfl (q:=(h:Int)) rfl rfl (by omega) (off':=h) (by omega)) ?_
   refine Ae rfl (Act (j:=0) (f:=(Value.int .i64)) (i:=h) (bv:=a65) ⟨_,Tryd.underlying3,rfl⟩ rfl rfl ha65 ?_)
   refine Aa rfl (Ek (p:=a65) (q:=0) rfl rfl) ?_
   apply Ac
   apply k78
   refine As (t:=a65 == 0) rfl (fun b79=>?_) (fun b79=>?_)
   ·have q79:=Jo b79
    refine Ag rfl rfl ?_
    refine l_A (iV (2)) rfl rfl ?_
    apply Ac
    apply k77
    refine Ag rfl rfl ?_
    refine Aa rfl (Ah (v:=ov57_11) h57_11) ?_
    refine l_M (iV (2)) rfl rfl ?_
    refine Ae rfl (Bi (α:=Int) (xs:=[2]) (vs:=[(iV (2))]) Tryd.underlying46 Ov Abg rfl (by decide) (Dl (os:=[.tmp 88]) ⟨rfl,trivial⟩) ⟨(Cv.2 ⟨rfl,by constructor <;> omega⟩),trivial⟩ rfl (by decide) fun k80 cs80 R80=>?_)
    have G80:Grow ρ57 53 (.slice (some ⟨k80,0,none⟩) 1 1) ([2]:List Int) [(k80,.obj (.cells cs80.toArray 53 (0,0)))]:=Bs R80 rfl (by decide)
    refine Ca G80 fun ρ82 l82 r82=>?_
    replace OG57_11:=Grow.mono l82 OG57_11
    refine Bj (σ':=(og57_11 ++ ((k24,Res.obj (Obj.cells (rx27_8.map (Value.int .i64)).toArray 3 (0,0))) :: σ))) (Arx (List.perm_append_comm_assoc ([(k24,Res.obj (Obj.cells (rx27_8.map (Value.int .i64)).toArray 3 (0,0)))]) og57_11 _)) ?_
    refine Ae rfl (Fx (σ:=((k24,Res.obj (Obj.cells (rx27_8.map (Value.int .i64)).toArray 3 (0,0))) :: σ)) (gr:=og57_11) (xs:=(List.range h).map (Pt (lv m n))) (ys:=([2]:List Int)) Tryd.underlying46 Tryd.underlying46 (Ab Tryd.typeInfo53) rfl (Nat.le_of_ble_eq_true rfl) rfl rfl rfl rfl OG57_11 r82 (by simp only [List.length_map,List.length_range,List.length_append,List.length_cons,List.length_nil] at *; omega) fun v81 gr81 G81=>?_)
    refine l_A v81 rfl rfl ?_
    apply Ac
    apply k61
    refine Ag rfl rfl ?_
    refine Aa rfl (Ah (v:=(iV ((h:Int)))) h57_12) ?_
    refine Aa rfl (Br (p:=(h:Int)) (q:=1) rfl rfl (z:=(((h + 1):Nat):Int)) (Bo (by first | rfl | omega | (push_cast; rfl)) (by omega) (by omega))) ?_
    refine l_A (iV ((((h + 1):Nat):Int))) rfl rfl ?_
    apply Ac
    refine ⟨_,?_,((h + 1)),v81,gr81,rfl,rfl,(Arz l57 l82),rfl,h57_6,h57_7,h57_8,rfl,rfl,(by omega),(Ga (by
  have hi:i = 1 <<< m.houses.length:=by omega
  have hz:=ha65
  rw [RX27_8] at hz
  have hc:=times_get hz
  rw [if_neg (Nat.not_lt_zero _),Nat.add_zero,hi] at hc
  change _ = ((Jd (lv m n) h:Nat):Int) at hc
  have hlv:(lv m n).length = c:=by rw [p27_1,hi]; rfl
  have hv:Pt (lv m n) h = 2:=by unfold Pt; rw [if_pos (by omega)]
  rw [Mz,hv]) G81),trivial⟩
    omega
   have q79:=La b79
   refine Al ?_
   apply k77
   refine Ag rfl rfl ?_
   refine Aa rfl (Ah (v:=ov57_11) h57_11) ?_
   refine l_M (iV (0)) rfl rfl ?_
   refine Ae rfl (Bi (α:=Int) (xs:=[0]) (vs:=[(iV (0))]) Tryd.underlying46 Ov Abg rfl (by decide) (Dl (os:=[.tmp 88]) ⟨rfl,trivial⟩) ⟨(Cv.2 ⟨rfl,by constructor <;> omega⟩),trivial⟩ rfl (by decide) fun k83 cs83 R83=>?_)
   have G83:Grow ρ57 53 (.slice (some ⟨k83,0,none⟩) 1 1) ([0]:List Int) [(k83,.obj (.cells cs83.toArray 53 (0,0)))]:=Bs R83 rfl (by decide)
   refine Ca G83 fun ρ85 l85 r85=>?_
   replace OG57_11:=Grow.mono l85 OG57_11
   refine Bj (σ':=(og57_11 ++ ((k24,Res.obj (Obj.cells (rx27_8.map (Value.int .i64)).toArray 3 (0,0))) :: σ))) (Arx (List.perm_append_comm_assoc ([(k24,Res.obj (Obj.cells (rx27_8.map (Value.int .i64)).toArray 3 (0,0)))]) og57_11 _)) ?_
   refine Ae rfl (Fx (σ:=((k24,Res.obj (Obj.cells (rx27_8.map (Value.int .i64)).toArray 3 (0,0))) :: σ)) (gr:=og57_11) (xs:=(List.range h).map (Pt (lv m n))) (ys:=([0]:List Int)) Tryd.underlying46 Tryd.underlying46 (Ab Tryd.typeInfo53) rfl (Nat.le_of_ble_eq_true rfl) rfl rfl rfl rfl OG57_11 r85 (by simp only [List.length_map,List.length_range,List.length_append,List.length_cons,List.length_nil] at *; omega) fun v84 gr84 G84=>?_)
   refine l_A v84 rfl rfl ?_
   apply Ac
   apply k61
   refine Ag rfl rfl ?_
   refine Aa rfl (Ah (v:=(iV ((h:Int)))) h57_12) ?_
   refine Aa rfl (Br (p:=(h:Int)) (q:=1) rfl rfl (z:=(((h + 1):Nat):Int)) (Bo (by first | rfl | omega | (push_cast; rfl)) (by omega) (by omega))) ?_
   refine l_A (iV ((((h + 1):Nat):Int))) rfl rfl ?_
   apply Ac
   refine ⟨_,?_,((h + 1)),v84,gr84,rfl,rfl,(Arz l57 l85),rfl,h57_6,h57_7,h57_8,rfl,rfl,(by omega),(Ga (by
  have hi:i = 1 <<< m.houses.length:=by omega
  have hz:=ha65
  rw [RX27_8] at hz
  have hc:=times_get hz
  rw [if_neg (Nat.not_lt_zero _),Nat.add_zero,hi] at hc
  change _ = ((Jd (lv m n) h:Nat):Int) at hc
  have hlv:(lv m n).length = c:=by rw [p27_1,hi]; rfl
  have hv:Pt (lv m n) h = 0:=by unfold Pt; rw [if_neg (by omega),if_neg (by rw [hlv]; omega)]
  rw [Mz,hv]) G84),trivial⟩
   omega
  have q60:=of_decide_eq_false b60
  refine Bx ?_
  apply k55
  refine w_q rfl rfl fun K86 k86=>?_
  refine Aa rfl (Ah (v:=(iV ((n:Int)))) h57_6) ?_
  refine Aa rfl (Ah (v:=ov57_11) h57_11) ?_
  refine l_A (iV ((n:Int))) rfl rfl ?_
  refine l_A ov57_11 rfl rfl ?_
  refine l_A (iV (0)) rfl rfl ?_
  apply Ac
  apply k86
  refine Gy OG57_11 fun ρ87 l87 r87=>?_
  refine Aj Ghost.drop ?_
  refine Aq ?_
  refine hret _ _ _ ?_
  refine ⟨(Arz (Arz l2 l57) l87),rfl,ov57_11,Eq.trans (b:=(.tuple #[(iV ((n:Int))),ov57_11,(iV (0))])) (Mk (r:=2) (r':=3) (rs:=[4]) (v:=(iV ((n:Int)))) (v':=ov57_11) (vs:=[(iV (0))]) ⟨rfl,rfl,rfl,trivial⟩) ?_,Val.cast ?_ r87⟩
  ·have hi:i = 1 <<< m.houses.length:=by omega
   have hN:Abl m = n:=Ant (by omega) p11_1 (by rw [lv,← hi,← p27_1]; omega)
   rw [Akj,if_pos hm,hN,hm]
  ·have hi:i = 1 <<< m.houses.length:=by omega
   have hN:Abl m = n:=Ant (by omega) p11_1 (by rw [lv,← hi,← p27_1]; omega)
   rw [Alc,if_pos hm,Apv,hN,show h = m.houses.length by omega]
 have q17:=of_decide_eq_false b17
 refine Bx ?_
 apply k9
 refine w_q rfl rfl fun K88 k88=>?_
 refine l_A (iV (0)) rfl rfl ?_
 refine l_A (.slice none 0 0) rfl rfl ?_
 refine l_A (iV (0)) rfl rfl ?_
 apply Ac
 apply k88
 refine Aq ?_
 refine hret _ _ _ ?_
 refine ⟨l2,rfl,(.slice none 0 0),Eq.trans (b:=(.tuple #[(iV (0)),(.slice none 0 0),(iV (0))])) (Mk (r:=2) (r':=3) (rs:=[4]) (v:=(iV (0))) (v':=(.slice none 0 0)) (vs:=[(iV (0))]) ⟨rfl,rfl,rfl,trivial⟩) ?_,Val.cast ?_ Gx⟩
 ·exfalso
  obtain ⟨n0,hn0,hs0⟩:=Aku ok
  have:=p11_1 n0 (by omega)
  rw [List.isEmpty_iff_length_eq_zero.2 this] at hs0
  cases hs0
 ·exfalso
  obtain ⟨n0,hn0,hs0⟩:=Aku ok
  have:=p11_1 n0 (by omega)
  rw [List.isEmpty_iff_length_eq_zero.2 this] at hs0
  cases hs0
end Go.Proofs.YtoefdnbaklajeaaDoor

namespace Go.Proofs.YtoefdnbaklajeaaDoor
open Go
set_option maxRecDepth 100000 in
theorem c_ProvesP {mn:Bool} {X:Frame→List Frame→Ro→Own→Cy→Prop} {ρ:Ro} {σ:Own} {m:Market} {vm vl:Value} {l:List Int} (rm:Val ρ vm m) (rl:Val ρ vl l):CallsH (CX mn X) 44 #[vm,vl] ρ σ (fun w ρ' σ'=>ρ' = ρ∧σ' = σ∧w = (.tuple #[(iV (provI m l)),(iV (provF m l))])):=by
 refine Bh (n:=48) (args:=[vm,vl]) [4,5] Tryd.func44 rfl rfl rfl rfl fun Q hret hnor=>?_
 refine w_q rfl rfl fun K1 k1=>?_
 refine Ae rfl (Eb (v:=vm) rfl fun k2=>?_)
 refine Bb (a:=m) rm fun ρ2 l2 r2=>?_
 replace rm:=Asa l2 rm
 replace rl:=Asa l2 rl
 refine l_A (iV (0)) rfl rfl ?_
 refine l_A (iV (0)) rfl rfl ?_
 apply Ac
 apply k1
 refine Ai fun K3 k3=>?_
 refine w_q rfl rfl fun K4 k4=>?_
 refine Ak rfl (Ax Lj rfl r2) fun v5 r5=>?_
 refine Ae rfl (Bn (vs:=[v5]) (v:=(iV (Ch m))) (Jp r5) Tryd.func43 rfl rfl ⟨rfl,trivial⟩ ?_)
 refine l_A (iV (Ch m)) rfl rfl ?_
 apply Ac
 apply k4
 refine w_q rfl rfl fun K6 k6=>?_
 refine l_M (iV (Ch m)) rfl rfl ?_
 refine Aa rfl (Dg (p:=Ch m) (q:=0) rfl rfl) ?_
 apply Ac
 apply k6
 refine As (t:=Ch m != 0) rfl (fun b7=>?_) (fun b7=>?_)
 ·have q7:=Mb b7
  refine w_q rfl rfl fun K8 k8=>?_
  refine l_M (iV (Ch m)) rfl rfl ?_
  refine l_A (iV (0)) rfl rfl ?_
  refine l_A (iV (Ch m)) rfl rfl ?_
  apply Ac
  apply k8
  refine Aj (Arw l2) ?_
  refine Aq ?_
  refine hret _ _ _ ?_
  refine ⟨rfl,rfl,Eq.trans (b:=(.tuple #[(iV (0)),(iV (Ch m))])) (Mk (r:=4) (r':=5) (rs:=[]) (v:=(iV (0))) (v':=(iV (Ch m))) (vs:=[]) ⟨rfl,rfl,trivial⟩) ?_⟩
  have hp:provF m l = Ch m:=by rw [provF,Rx q7]
  rw [hp,provI,hp,if_neg q7]
 have q7:=Jh b7
 refine Al ?_
 apply k3
 refine Ai fun K9 k9=>?_
 refine w_q rfl rfl fun K10 k10=>?_
 refine l_M vl rfl rfl ?_
 have g11:=Val.len rl
 refine Aa rfl (Ce (el:=3) Tryd.underlying30 rfl rl) ?_
 refine l_M (iV (0)) rfl rfl ?_
 apply Ac
 apply k10
 refine Ao ?_
 have ok:=Qv q7
 have hn8:=ok.nsales
 refine Cc (fun mm ee dd ρ' σ'=>∃ (i:Nat),(l.length - i) = mm∧[] = dd∧ρ2 = ρ'∧σ = σ'∧ee 1 = vl∧ee 2 = (.pointer (some ⟨k2,0,none⟩))∧ee 14 = vl∧ee 15 = (iV (((l.length:Nat):Int)))∧ee 16 = (iV ((i:Int)))∧(i ≤ l.length)∧(∀ j,j < i→prvAt m l j = 0)∧True) (m:=_) ⟨0,rfl,rfl,rfl,rfl,rfl,rfl,rfl,rfl,rfl,(Nat.zero_le _),(fun j h=>absurd h (Nat.not_lt_zero _)),trivial⟩ ?_
 rintro m12 e12 _ _ _ ⟨i,rfl,rfl,rfl,rfl,h12_1,h12_2,h12_14,h12_15,h12_16,p12_0,p12_1,_⟩
 refine w_q rfl rfl fun K13 k13=>?_
 refine Aa rfl (Da (p:=(i:Int)) (q:=((l.length:Nat):Int)) h12_16 h12_15) ?_
 apply Ac
 apply k13
 refine Ai fun K14 k14=>?_
 refine As (t:=decide ((i:Int) < ((l.length:Nat):Int))) rfl (fun b15=>?_) (fun b15=>?_)
 ·have q15:=of_decide_eq_true b15
  refine Al ?_
  apply k14
  refine Ai fun K16 k16=>?_
  refine Ao ?_
  refine w_q rfl rfl fun K17 k17=>?_
  refine Aa rfl (Ah (v:=(iV ((i:Int)))) h12_16) ?_
  obtain ⟨a19,ha19⟩:=Ed (xs:=l) (i:=i) (by omega)
  refine Ak rfl (Ci i Tryd.underlying30 ty3 h12_14 rl (q:=(i:Int)) h12_16 rfl ha19) fun v18 r18=>?_
  have ⟨g20a,g20b⟩:=At.rng r18
  refine Aa rfl (Bc ty3 rfl r18) ?_
  refine l_A (iV ((i:Int))) rfl rfl ?_
  refine l_A (iV (a19)) rfl rfl ?_
  apply Ac
  apply k17
  refine Ao ?_
  refine w_q rfl rfl fun K21 k21=>?_
  refine l_M (iV (a19)) rfl rfl ?_
  refine Ak rfl (Ay Market.f_sales Tryd.underlying26 rfl rfl Pq (by decide) h12_2 r2) fun v22 r22=>?_
  refine Ak rfl (Ax Pq rfl r22) fun v23 r23=>?_
  have g24:=Val.len r23
  refine Aa rfl (Ce (el:=59) Tryd.underlying24 rfl r23) ?_
  refine Aa rfl (Oq (p:=((m.sales.length:Nat):Int)) (q:=1) rfl rfl (z:=(((m.sales.length:Nat):Int) - 1)) (Bo (by first | rfl | omega | (push_cast; rfl)) (by omega) (by omega))) ?_
  refine Ae rfl (Bn (vs:=[(iV (a19)),(iV (0)),(iV ((((m.sales.length:Nat):Int) - 1)))]) (v:=(.bool (inR a19 0 ((((m.sales.length:Nat):Int) - 1))))) (Jn) Tryd.func92 rfl rfl ⟨rfl,rfl,rfl,trivial⟩ ?_)
  refine Aa rfl (Ix (k:=inR a19 0 ((((m.sales.length:Nat):Int) - 1))) rfl) ?_
  refine l_A (.bool (!(inR a19 0 ((((m.sales.length:Nat):Int) - 1))))) rfl rfl ?_
  apply Ac
  apply k21
  refine As (t:=!(inR a19 0 ((((m.sales.length:Nat):Int) - 1)))) rfl (fun b25=>?_) (fun b25=>?_)
  ·have b26:=not_eq_t b25
   have q26:=Ui.1 b26
   refine w_q rfl rfl fun K27 k27=>?_
   refine l_A (iV (0)) rfl rfl ?_
   refine l_A (iV (6)) rfl rfl ?_
   apply Ac
   apply k27
   refine Aj (Arw l2) ?_
   refine Aq ?_
   refine hret _ _ _ ?_
   refine ⟨rfl,rfl,Eq.trans (b:=(.tuple #[(iV (0)),(iV (6))])) (Mk (r:=4) (r':=5) (rs:=[]) (v:=(iV (0))) (v':=(iV (6))) (vs:=[]) ⟨rfl,rfl,trivial⟩) ?_⟩
   have hf:prvAt m l i = 6:=prv_6 ha19 b26
   have hp:provF m l = 6:=by rw [provF,Gt q7,Db p12_1 (by omega) hf (by omega)]
   rw [hp,provI,hp,if_neg (by omega)]
  have b28:=not_eq_f b25
  have q28:=Ge.1 b28
  refine w_q rfl rfl fun K29 k29=>?_
  refine l_M (iV ((i:Int))) rfl rfl ?_
  refine Aa rfl (Gk (p:=(i:Int)) (q:=0) rfl rfl) ?_
  refine l_M (.bool (decide ((i:Int) > 0))) rfl rfl ?_
  refine Cn (decide ((i:Int) > 0)) (fun b30=>?_) (fun b30=>?_)
  ·have q30:=of_decide_eq_true b30
   refine l_M (iV (a19)) (Ar rfl rfl rfl b30) rfl ?_
   refine Aa (Ar rfl rfl rfl b30) (Ah (v:=vl) h12_1) ?_
   refine l_M (iV ((i:Int))) (Ar rfl rfl rfl b30) rfl ?_
   refine Aa (Ar rfl rfl rfl b30) (Oq (p:=(i:Int)) (q:=1) rfl rfl (z:=((i:Int) - 1)) (Bo (by first | rfl | omega | (push_cast; rfl)) (by omega) (by omega))) ?_
   obtain ⟨a32,ha32⟩:=Ed (xs:=l) (i:=(((i:Int) - 1)).toNat) (by omega)
   refine Ak (Ar rfl rfl rfl b30) (Ci ((((i:Int) - 1)).toNat) Tryd.underlying30 ty3 rfl rl (q:=((i:Int) - 1)) rfl (by omega) ha32) fun v31 r31=>?_
   have ⟨g33a,g33b⟩:=At.rng r31
   refine Aa (Ar rfl rfl rfl b30) (Bc ty3 rfl r31) ?_
   refine Aa (Ar rfl rfl rfl b30) (Tx (p:=a19) (q:=a32) rfl rfl) ?_
   refine Aa rfl (Bt rfl b30 (v:=(.bool (decide (a19 ≤ a32)))) rfl) ?_
   refine l_A (.bool (decide (a19 ≤ a32))) rfl rfl ?_
   apply Ac
   apply k29
   refine As (t:=decide (a19 ≤ a32)) rfl (fun b34=>?_) (fun b34=>?_)
   ·have q34:=of_decide_eq_true b34
    refine w_q rfl rfl fun K35 k35=>?_
    refine l_A (iV (0)) rfl rfl ?_
    refine l_A (iV (7)) rfl rfl ?_
    apply Ac
    apply k35
    refine Aj (Arw l2) ?_
    refine Aq ?_
    refine hret _ _ _ ?_
    refine ⟨rfl,rfl,Eq.trans (b:=(.tuple #[(iV (0)),(iV (7))])) (Mk (r:=4) (r':=5) (rs:=[]) (v:=(iV (0))) (v':=(iV (7))) (vs:=[]) ⟨rfl,rfl,trivial⟩) ?_⟩
    have hf:prvAt m l i = 7:=prv_7 ha19 b28 (by omega) (by rw [← ha32]; congr 1; omega) (by omega)
    have hp:provF m l = 7:=by rw [provF,Gt q7,Db p12_1 (by omega) hf (by omega)]
    rw [hp,provI,hp,if_neg (by omega)]
   have q34:=of_decide_eq_false b34
   refine Al ?_
   apply k16
   refine Ag rfl rfl ?_
   refine Aa rfl (Br (p:=(i:Int)) (q:=1) h12_16 rfl (z:=(((i + 1):Nat):Int)) (Bo (by first | rfl | omega | (push_cast; rfl)) (by omega) (by omega))) ?_
   refine l_M (iV ((((i + 1):Nat):Int))) rfl rfl ?_
   apply Ac
   refine ⟨_,?_,((i + 1)),rfl,rfl,rfl,rfl,h12_1,h12_2,h12_14,h12_15,rfl,(by omega),(Ef p12_1 (prv_0 ha19 b28 (.inr ⟨_,(by rw [← ha32]; congr 1; omega),by omega⟩))),trivial⟩
   omega
  have q30:=of_decide_eq_false b30
  refine Ap (Bl rfl rfl rfl b30) ?_
  refine Ap (Bl rfl rfl rfl b30) ?_
  refine Ap (Bl rfl rfl rfl b30) ?_
  refine Ap (Bl rfl rfl rfl b30) ?_
  refine Ap (Bl rfl rfl rfl b30) ?_
  refine Ap (Bl rfl rfl rfl b30) ?_
  refine Ap (Bl rfl rfl rfl b30) ?_
  refine Aa rfl (Bm rfl b30 (v:=(.bool (false))) rfl) ?_
  refine l_A (.bool (false)) rfl rfl ?_
  apply Ac
  apply k29
  refine Cg rfl rfl ?_
  refine Al ?_
  apply k16
  refine Ag rfl rfl ?_
  refine Aa rfl (Br (p:=(i:Int)) (q:=1) h12_16 rfl (z:=(((i + 1):Nat):Int)) (Bo (by first | rfl | omega | (push_cast; rfl)) (by omega) (by omega))) ?_
  refine l_M (iV ((((i + 1):Nat):Int))) rfl rfl ?_
  apply Ac
  refine ⟨_,?_,((i + 1)),rfl,rfl,rfl,rfl,h12_1,h12_2,h12_14,h12_15,rfl,(by omega),(Ef p12_1 (prv_0 ha19 b28 (.inl (by omega)))),trivial⟩
  omega
 have q15:=of_decide_eq_false b15
 refine Bx ?_
 apply k9
 refine Ai fun K36 k36=>?_
 refine Dc [0,1,2,3,4,5,6,7] (by kernel_rfl) rfl rfl ?_
 refine Cd (i:=0) [o1,o0,o0,o0,o0,o0,o0,o0] rfl (by kernel_rfl) rfl Ary rfl (Ax Lj h12_2 r2) fun v37 r37=>?_
 refine Cd (i:=1) [o1,o1,o0,o0,o0,o0,o0,o0] rfl (by kernel_rfl) rfl Ary rfl (Ax Lj h12_2 r2) fun v38 r38=>?_
 refine Be (i:=4) [o1,o1,o0,o0,o1,o0,o0,o0] rfl (by kernel_rfl) rfl Ary rfl (Ah (v:=vl) h12_1) ?_
 refine Dj (i:=2) [o1,o1,o1,o0,o1,o0,o0,o0] rfl (by kernel_rfl) rfl rfl (Cm (vs:=[v38]) (Uo r38 ok) Tryd.func82 rfl rfl ⟨rfl,trivial⟩ fun v39 ρ39 σ39 hc39=>?_)
 obtain ⟨l39,s39,r39⟩:=hc39
 replace s39:=s39.symm; subst s39
 replace rl:=Asa l39 rl
 replace r2:=Arv l39 r2
 replace r37:=Asa l39 r37
 replace r38:=Asa l39 r38
 refine ⟨l39,?_⟩
 refine Hl (i:=3) [o1,o1,o1,o1,o1,o0,o0,o0] rfl (by kernel_rfl) rfl l39 rfl (Rr rfl r37 rfl r39) fun v40 r40=>?_
 have hp0:provF m l = 0:=by rw [provF,Gt q7,Fb fun j hj=>p12_1 j (by omega)]
 obtain ⟨hp1,hp2,hp3⟩:=provF_0 hp0
 have hp4:=asc_ok hp3 hn8
 refine Dj (i:=5) [o1,o1,o1,o1,o1,o1,o0,o0] rfl (by kernel_rfl) rfl rfl (Bn (vs:=[v40,vl]) (v:=(iV (Bq m (natL l)))) (Adq (l:=natL l) r40 (Val.cast hp2 rl) ok hp4.1 hp4.2) Tryd.func89 rfl rfl ⟨rfl,rfl,trivial⟩ ⟨l39,?_⟩)
 refine Bg (i:=6) [o1,o1,o1,o1,o1,o1,o1,o0] rfl (by kernel_rfl) rfl l39 rfl (Cp (v:=(iV (Bq m (natL l)))) rfl) ?_
 refine Bg (i:=7) [o1,o1,o1,o1,o1,o1,o1,o1] rfl (by kernel_rfl) rfl l39 rfl (Cp (v:=(iV (0))) rfl) ?_
 refine Ec rfl ?_
 apply k36
 refine Aj (Arw (Arz l2 l39)) ?_
 refine Aq ?_
 refine hret _ _ _ ?_
 refine ⟨rfl,rfl,Eq.trans (b:=(.tuple #[(iV (Bq m (natL l))),(iV (0))])) (Mk (r:=4) (r':=5) (rs:=[]) (v:=(iV (Bq m (natL l)))) (v':=(iV (0))) (vs:=[]) ⟨rfl,rfl,trivial⟩) ?_⟩
 rw [hp0,provI,if_pos hp0]
end Go.Proofs.YtoefdnbaklajeaaDoor

namespace Go.Proofs.YtoefdnbaklajeaaDoor
open Go
set_option maxHeartbeats 4000000 in
set_option maxRecDepth 100000 in
theorem c_FakeSales  {ρ:Ro} {σ:Own} {m:Market} {sales:List Int} {vm vs:Value} (hg:Glob ρ) (hnr:Js σ) (rm:Val ρ vm m) (rs:Val ρ vs sales):Agv (CX true (Acu Tryd.prog)) 9 4 [vm,vs] ρ σ (fun w ρ' σ'=>ρ' = ρ∧σ' = σ∧w = (.bool (true))):=by
 refine body_fn (n:=102) Tryd.func9 rfl rfl rfl rfl fun Q hret hnor=>?_
 refine w_q rfl rfl fun K1 k1=>?_
 refine Ae rfl (Eb (v:=vm) rfl fun k2=>?_)
 refine Bb (a:=m) rm fun ρ2 l2 r2=>?_
 replace rm:=Asa l2 rm
 replace rs:=Asa l2 rs
 replace hg:=Glob.mono l2 hg
 refine l_A (.bool (false)) rfl rfl ?_
 apply Ac
 apply k1
 refine Ai fun K3 k3=>?_
 refine w_q rfl rfl fun K4 k4=>?_
 refine Ak rfl (Ax Lj rfl r2) fun v5 r5=>?_
 refine Ae rfl (Cm (vs:=[v5]) (c_Vast r5) Tryd.func16 rfl rfl ⟨rfl,trivial⟩ fun w6 ρ6 σ6 hc6=>?_)
 obtain ⟨hr6,hs6,b6_,hw6⟩:=hc6
 replace hr6:=hr6.symm; replace hs6:=hs6.symm; subst hr6 hs6 hw6
 refine l_M (.bool (b6_)) rfl rfl ?_
 refine Cn (b6_) (fun b7=>?_) (fun b7=>?_)
 ·refine Ap (Bl rfl rfl rfl b7) ?_
  refine Ap (Bl rfl rfl rfl b7) ?_
  refine Ap (Bl rfl rfl rfl b7) ?_
  refine Aa rfl (Bt rfl b7 (v:=(.bool (true))) rfl) ?_
  apply Ac
  apply k4
  refine Co rfl rfl ?_
  refine w_q rfl rfl fun K8 k8=>?_
  refine Ae rfl (Bn (vs:=[]) (v:=(.bool (true))) (c_tells hg hnr) Tryd.func17 rfl rfl trivial ?_)
  refine l_A (.bool (true)) rfl rfl ?_
  apply Ac
  apply k8
  refine Aj (Arw l2) ?_
  refine Aq ?_
  refine hret _ _ _ ?_
  refine ⟨rfl,rfl,Eq.trans (b:=(.bool (true))) rfl ?_⟩
  rfl
 refine l_M vs (Ar rfl rfl rfl b7) rfl ?_
 have g9:=Val.len rs
 refine Aa (Ar rfl rfl rfl b7) (Ce (el:=3) Tryd.underlying30 rfl rs) ?_
 refine Aa (Ar rfl rfl rfl b7) (Gk (p:=((sales.length:Nat):Int)) (q:=40) rfl rfl) ?_
 refine Aa rfl (Bm rfl b7 (v:=(.bool (decide (((sales.length:Nat):Int) > 40)))) rfl) ?_
 apply Ac
 apply k4
 refine As (t:=decide (((sales.length:Nat):Int) > 40)) rfl (fun b10=>?_) (fun b10=>?_)
 ·have q10:=of_decide_eq_true b10
  refine w_q rfl rfl fun K11 k11=>?_
  refine Ae rfl (Bn (vs:=[]) (v:=(.bool (true))) (c_tells hg hnr) Tryd.func17 rfl rfl trivial ?_)
  refine l_A (.bool (true)) rfl rfl ?_
  apply Ac
  apply k11
  refine Aj (Arw l2) ?_
  refine Aq ?_
  refine hret _ _ _ ?_
  refine ⟨rfl,rfl,Eq.trans (b:=(.bool (true))) rfl ?_⟩
  rfl
 have q10:=of_decide_eq_false b10
 refine Al ?_
 apply k3
 refine w_q rfl rfl fun K12 k12=>?_
 refine Ak rfl (Ax Lj rfl r2) fun v13 r13=>?_
 refine Ae rfl (Cm (vs:=[v13]) (Aek r13) Tryd.func32 rfl rfl ⟨rfl,trivial⟩ fun w14 ρ14 σ14 hc14=>?_)
 obtain ⟨l14,s14,v14_0,w14e,r14_0⟩:=hc14
 replace s14:=s14.symm; subst s14 w14e
 replace rs:=Asa l14 rs
 replace hg:=Glob.mono l14 hg
 replace r2:=Arv l14 r2
 replace r13:=Asa l14 r13
 refine l_M (.tuple #[(iV (Aik m)),v14_0,(iV (Ch m))]) rfl rfl ?_
 refine Aa rfl (Bk (vs:=#[(iV (Aik m)),v14_0,(iV (Ch m))]) rfl (v:=(iV (Aik m))) rfl) ?_
 refine Aa rfl (Bk (vs:=#[(iV (Aik m)),v14_0,(iV (Ch m))]) rfl (v:=v14_0) rfl) ?_
 refine Aa rfl (Bk (vs:=#[(iV (Aik m)),v14_0,(iV (Ch m))]) rfl (v:=(iV (Ch m))) rfl) ?_
 refine l_A (iV (Aik m)) rfl rfl ?_
 refine l_A v14_0 rfl rfl ?_
 refine l_A (iV (Ch m)) rfl rfl ?_
 apply Ac
 apply k12
 refine w_q rfl rfl fun K15 k15=>?_
 refine Ak rfl (Ax Lj rfl r2) fun v16 r16=>?_
 refine Ae rfl (Cm (vs:=[v16]) (c_refExcess r16) Tryd.func42 rfl rfl ⟨rfl,trivial⟩ fun w17 ρ17 σ17 hc17=>?_)
 obtain ⟨l17,s17,v17_0,w17e,r17_0⟩:=hc17
 replace s17:=s17.symm; subst s17 w17e
 replace rs:=Asa l17 rs
 replace hg:=Glob.mono l17 hg
 replace r2:=Arv l17 r2
 replace r14_0:=Asa l17 r14_0
 replace r16:=Asa l17 r16
 refine l_M (.tuple #[(iV (Aik m)),v17_0,(iV (Ch m))]) rfl rfl ?_
 refine Aa rfl (Bk (vs:=#[(iV (Aik m)),v17_0,(iV (Ch m))]) rfl (v:=(iV (Aik m))) rfl) ?_
 refine Aa rfl (Bk (vs:=#[(iV (Aik m)),v17_0,(iV (Ch m))]) rfl (v:=v17_0) rfl) ?_
 refine Aa rfl (Bk (vs:=#[(iV (Aik m)),v17_0,(iV (Ch m))]) rfl (v:=(iV (Ch m))) rfl) ?_
 refine l_A (iV (Aik m)) rfl rfl ?_
 refine l_A v17_0 rfl rfl ?_
 refine l_A (iV (Ch m)) rfl rfl ?_
 apply Ac
 apply k15
 refine Ai fun K18 k18=>?_
 refine Ai fun K19 k19=>?_
 refine Dc [0,1,2,3,4,5,6,7,8,9,10,11,12,13,14,15,16,17,18,19,20] (by kernel_rfl) rfl rfl ?_
 refine Be (i:=0) [o1,o0,o0,o0,o0,o0,o0,o0,o0,o0,o0,o0,o0,o0,o0,o0,o0,o0,o0,o0,o0] rfl (by kernel_rfl) rfl Ary rfl (Ah (v:=(iV (Aik m))) rfl) ?_
 refine Bg (i:=1) [o1,o1,o0,o0,o0,o0,o0,o0,o0,o0,o0,o0,o0,o0,o0,o0,o0,o0,o0,o0,o0] rfl (by kernel_rfl) rfl Ary rfl (Ah (v:=(iV (Aik m))) rfl) ?_
 refine Bg (i:=2) [o1,o1,o1,o0,o0,o0,o0,o0,o0,o0,o0,o0,o0,o0,o0,o0,o0,o0,o0,o0,o0] rfl (by kernel_rfl) rfl Ary rfl (Dg (p:=Aik m) (q:=Aik m) rfl rfl) ?_
 refine Bg (i:=3) [o1,o1,o1,o1,o0,o0,o0,o0,o0,o0,o0,o0,o0,o0,o0,o0,o0,o0,o0,o0,o0] rfl (by kernel_rfl) rfl Ary rfl (Ah (v:=(.bool (Aik m != Aik m))) rfl) ?_
 refine Be (i:=4) [o1,o1,o1,o1,o1,o0,o0,o0,o0,o0,o0,o0,o0,o0,o0,o0,o0,o0,o0,o0,o0] rfl (by kernel_rfl) rfl Ary (Ar rfl rfl rfl (by simp)) (Ah (v:=v14_0) rfl) ?_
 refine Bg (i:=5) [o1,o1,o1,o1,o1,o1,o0,o0,o0,o0,o0,o0,o0,o0,o0,o0,o0,o0,o0,o0,o0] rfl (by kernel_rfl) rfl Ary (Ar rfl rfl rfl (by simp)) (Ah (v:=v17_0) rfl) ?_
 refine Dj (i:=6) [o1,o1,o1,o1,o1,o1,o1,o0,o0,o0,o0,o0,o0,o0,o0,o0,o0,o0,o0,o0,o0] rfl (by kernel_rfl) rfl (Ar rfl rfl rfl (by simp)) (Bn (vs:=[v14_0,v17_0]) (v:=(.bool (decide (Aje m = Aje m)))) (Agi r14_0 r17_0) Tryd.func20 rfl rfl ⟨rfl,rfl,trivial⟩ ⟨Ary,?_⟩)
 refine Bg (i:=7) [o1,o1,o1,o1,o1,o1,o1,o1,o0,o0,o0,o0,o0,o0,o0,o0,o0,o0,o0,o0,o0] rfl (by kernel_rfl) rfl Ary (Ar rfl rfl rfl (by simp)) (Ix (k:=decide (Aje m = Aje m)) rfl) ?_
 refine Bg (i:=8) [o1,o1,o1,o1,o1,o1,o1,o1,o1,o0,o0,o0,o0,o0,o0,o0,o0,o0,o0,o0,o0] rfl (by kernel_rfl) rfl Ary rfl (Bm rfl (by simp) (v:=(.bool (!(decide (Aje m = Aje m))))) rfl) ?_
 refine Bg (i:=9) [o1,o1,o1,o1,o1,o1,o1,o1,o1,o1,o0,o0,o0,o0,o0,o0,o0,o0,o0,o0,o0] rfl (by kernel_rfl) rfl Ary rfl (Ah (v:=(.bool (!(decide (Aje m = Aje m))))) rfl) ?_
 refine Be (i:=10) [o1,o1,o1,o1,o1,o1,o1,o1,o1,o1,o1,o0,o0,o0,o0,o0,o0,o0,o0,o0,o0] rfl (by kernel_rfl) rfl Ary (Ar rfl rfl rfl (not_t (by simp))) (Ah (v:=(iV (Ch m))) rfl) ?_
 refine Bg (i:=11) [o1,o1,o1,o1,o1,o1,o1,o1,o1,o1,o1,o1,o0,o0,o0,o0,o0,o0,o0,o0,o0] rfl (by kernel_rfl) rfl Ary (Ar rfl rfl rfl (not_t (by simp))) (Ah (v:=(iV (Ch m))) rfl) ?_
 refine Bg (i:=12) [o1,o1,o1,o1,o1,o1,o1,o1,o1,o1,o1,o1,o1,o0,o0,o0,o0,o0,o0,o0,o0] rfl (by kernel_rfl) rfl Ary (Ar rfl rfl rfl (not_t (by simp))) (Dg (p:=Ch m) (q:=Ch m) rfl rfl) ?_
 refine Bg (i:=13) [o1,o1,o1,o1,o1,o1,o1,o1,o1,o1,o1,o1,o1,o1,o0,o0,o0,o0,o0,o0,o0] rfl (by kernel_rfl) rfl Ary rfl (Bm rfl (not_t (by simp)) (v:=(.bool (Ch m != Ch m))) rfl) ?_
 refine Bg (i:=14) [o1,o1,o1,o1,o1,o1,o1,o1,o1,o1,o1,o1,o1,o1,o1,o0,o0,o0,o0,o0,o0] rfl (by kernel_rfl) rfl Ary rfl (Ah (v:=(.bool (Ch m != Ch m))) rfl) ?_
 refine Cd (i:=15) [o1,o1,o1,o1,o1,o1,o1,o1,o1,o1,o1,o1,o1,o1,o1,o1,o0,o0,o0,o0,o0] rfl (by kernel_rfl) rfl Ary (Ar rfl rfl rfl (by simp)) (Ax Lj rfl r2) fun v20 r20=>?_
 refine Cd (i:=17) [o1,o1,o1,o1,o1,o1,o1,o1,o1,o1,o1,o1,o1,o1,o1,o1,o0,o1,o0,o0,o0] rfl (by kernel_rfl) rfl Ary (Ar rfl rfl rfl (by simp)) (Ax Lj rfl r2) fun v21 r21=>?_
 refine Dj (i:=16) [o1,o1,o1,o1,o1,o1,o1,o1,o1,o1,o1,o1,o1,o1,o1,o1,o1,o1,o0,o0,o0] rfl (by kernel_rfl) rfl (Ar rfl rfl rfl (by simp)) (Bn (vs:=[v20]) (v:=(iV (Ch m))) (Jp r20) Tryd.func43 rfl rfl ⟨rfl,trivial⟩ ⟨Ary,?_⟩)
 refine Dj (i:=18) [o1,o1,o1,o1,o1,o1,o1,o1,o1,o1,o1,o1,o1,o1,o1,o1,o1,o1,o1,o0,o0] rfl (by kernel_rfl) rfl (Ar rfl rfl rfl (by simp)) (Bn (vs:=[v21]) (v:=(iV (Ch m))) (c_CheckMarket r21) Tryd.func28 rfl rfl ⟨rfl,trivial⟩ ⟨Ary,?_⟩)
 refine Bg (i:=19) [o1,o1,o1,o1,o1,o1,o1,o1,o1,o1,o1,o1,o1,o1,o1,o1,o1,o1,o1,o1,o0] rfl (by kernel_rfl) rfl Ary (Ar rfl rfl rfl (by simp)) (Dg (p:=Ch m) (q:=Ch m) rfl rfl) ?_
 refine Bg (i:=20) [o1,o1,o1,o1,o1,o1,o1,o1,o1,o1,o1,o1,o1,o1,o1,o1,o1,o1,o1,o1,o1] rfl (by kernel_rfl) rfl Ary rfl (Bm rfl (by simp) (v:=(.bool (Ch m != Ch m))) rfl) ?_
 refine Ec rfl ?_
 apply k19
 refine Cg rfl (by simp) ?_
 refine Al ?_
 apply k18
 refine w_q rfl rfl fun K22 k22=>?_
 refine Ak rfl (Ax Lj rfl r2) fun v23 r23=>?_
 refine l_M vs rfl rfl ?_
 refine Ae rfl (Bn (vs:=[v23,vs]) (v:=(.tuple #[(iV (provI m sales)),(iV (provF m sales))])) (c_ProvesP r23 rs) Tryd.func44 rfl rfl ⟨rfl,rfl,trivial⟩ ?_)
 refine l_M (.tuple #[(iV (provI m sales)),(iV (provF m sales))]) rfl rfl ?_
 refine Aa rfl (Bk (vs:=#[(iV (provI m sales)),(iV (provF m sales))]) rfl (v:=(iV (provI m sales))) rfl) ?_
 refine Aa rfl (Bk (vs:=#[(iV (provI m sales)),(iV (provF m sales))]) rfl (v:=(iV (provF m sales))) rfl) ?_
 refine l_A (iV (provI m sales)) rfl rfl ?_
 refine l_A (iV (provF m sales)) rfl rfl ?_
 apply Ac
 apply k22
 refine w_q rfl rfl fun K24 k24=>?_
 refine Ak rfl (Ax Lj rfl r2) fun v25 r25=>?_
 refine l_M vs rfl rfl ?_
 refine Ae rfl (Bn (vs:=[v25,vs]) (v:=(.tuple #[(iV (provI m sales)),(iV (provF m sales))])) (c_refProves r25 rs) Tryd.func45 rfl rfl ⟨rfl,rfl,trivial⟩ ?_)
 refine l_M (.tuple #[(iV (provI m sales)),(iV (provF m sales))]) rfl rfl ?_
 refine Aa rfl (Bk (vs:=#[(iV (provI m sales)),(iV (provF m sales))]) rfl (v:=(iV (provI m sales))) rfl) ?_
 refine Aa rfl (Bk (vs:=#[(iV (provI m sales)),(iV (provF m sales))]) rfl (v:=(iV (provF m sales))) rfl) ?_
 refine l_A (iV (provI m sales)) rfl rfl ?_
 refine l_A (iV (provF m sales)) rfl rfl ?_
 apply Ac
 apply k24
 refine Ai fun K26 k26=>?_
 refine w_q rfl rfl fun K27 k27=>?_
 refine l_M (iV (provI m sales)) rfl rfl ?_
 refine l_M (iV (provI m sales)) rfl rfl ?_
 refine Aa rfl (Dg (p:=provI m sales) (q:=provI m sales) rfl rfl) ?_
 refine l_M (.bool (provI m sales != provI m sales)) rfl rfl ?_
 refine l_M (iV (provF m sales)) (Ar rfl rfl rfl (by simp)) rfl ?_
 refine l_M (iV (provF m sales)) (Ar rfl rfl rfl (by simp)) rfl ?_
 refine Aa (Ar rfl rfl rfl (by simp)) (Dg (p:=provF m sales) (q:=provF m sales) rfl rfl) ?_
 refine Aa rfl (Bm rfl (by simp) (v:=(.bool (provF m sales != provF m sales))) rfl) ?_
 apply Ac
 apply k27
 refine Cg rfl (by simp) ?_
 refine Al ?_
 apply k26
 refine w_q rfl rfl fun K28 k28=>?_
 refine Ak rfl (Ax Lj rfl r2) fun v29 r29=>?_
 refine Ae rfl (Cm (vs:=[v29]) (Aio r29 hnr) Tryd.func31 rfl rfl ⟨rfl,trivial⟩ fun w30 ρ30 σ30 hc30=>?_)
 obtain ⟨l30,s30,v30_0,w30e,r30_0⟩:=hc30
 replace s30:=s30.symm; subst s30 w30e
 replace hg:=Glob.mono l30 hg
 replace r2:=Arv l30 r2
 replace r29:=Asa l30 r29
 refine l_M (.tuple #[(iV (Akj m)),v30_0,(iV (Ch m))]) rfl rfl ?_
 refine Aa rfl (Bk (vs:=#[(iV (Akj m)),v30_0,(iV (Ch m))]) rfl (v:=(iV (Akj m))) rfl) ?_
 refine Aa rfl (Bk (vs:=#[(iV (Akj m)),v30_0,(iV (Ch m))]) rfl (v:=v30_0) rfl) ?_
 refine Aa rfl (Bk (vs:=#[(iV (Akj m)),v30_0,(iV (Ch m))]) rfl (v:=(iV (Ch m))) rfl) ?_
 refine l_A (iV (Akj m)) rfl rfl ?_
 refine l_A v30_0 rfl rfl ?_
 refine l_A (iV (Ch m)) rfl rfl ?_
 apply Ac
 apply k28
 refine w_q rfl rfl fun K31 k31=>?_
 refine Ak rfl (Ax Lj rfl r2) fun v32 r32=>?_
 refine Ae rfl (Cm (vs:=[v32]) (c_refCheats r32) Tryd.func46 rfl rfl ⟨rfl,trivial⟩ fun w33 ρ33 σ33 hc33=>?_)
 obtain ⟨l33,s33,v33_0,w33e,r33_0⟩:=hc33
 replace s33:=s33.symm; subst s33 w33e
 replace hg:=Glob.mono l33 hg
 replace r2:=Arv l33 r2
 replace r30_0:=Asa l33 r30_0
 replace r32:=Asa l33 r32
 refine l_M (.tuple #[(iV (Akj m)),v33_0,(iV (Ch m))]) rfl rfl ?_
 refine Aa rfl (Bk (vs:=#[(iV (Akj m)),v33_0,(iV (Ch m))]) rfl (v:=(iV (Akj m))) rfl) ?_
 refine Aa rfl (Bk (vs:=#[(iV (Akj m)),v33_0,(iV (Ch m))]) rfl (v:=v33_0) rfl) ?_
 refine Aa rfl (Bk (vs:=#[(iV (Akj m)),v33_0,(iV (Ch m))]) rfl (v:=(iV (Ch m))) rfl) ?_
 refine l_A (iV (Akj m)) rfl rfl ?_
 refine l_A v33_0 rfl rfl ?_
 refine l_A (iV (Ch m)) rfl rfl ?_
 apply Ac
 apply k31
 refine w_q rfl rfl fun K34 k34=>?_
 refine l_M (iV (Akj m)) rfl rfl ?_
 refine l_M (iV (Akj m)) rfl rfl ?_
 refine Aa rfl (Ek (p:=Akj m) (q:=Akj m) rfl rfl) ?_
 refine l_M (.bool (Akj m == Akj m)) rfl rfl ?_
 refine l_M v30_0 (Ar rfl rfl rfl (by simp)) rfl ?_
 refine l_M v33_0 (Ar rfl rfl rfl (by simp)) rfl ?_
 refine Ae (Ar rfl rfl rfl (by simp)) (Bn (vs:=[v30_0,v33_0]) (v:=(.bool (decide (Alc m = Alc m)))) (Oo r30_0 r33_0) Tryd.func27 rfl rfl ⟨rfl,rfl,trivial⟩ ?_)
 refine Aa rfl (Bt rfl (by simp) (v:=(.bool (decide (Alc m = Alc m)))) rfl) ?_
 refine l_M (.bool (decide (Alc m = Alc m))) rfl rfl ?_
 refine l_M (iV (Ch m)) (Ar rfl rfl rfl (by simp)) rfl ?_
 refine l_M (iV (Ch m)) (Ar rfl rfl rfl (by simp)) rfl ?_
 refine Aa (Ar rfl rfl rfl (by simp)) (Ek (p:=Ch m) (q:=Ch m) rfl rfl) ?_
 refine Aa rfl (Bt rfl (by simp) (v:=(.bool (Ch m == Ch m))) rfl) ?_
 refine l_M (.bool (Ch m == Ch m)) rfl rfl ?_
 refine Ae (Ar rfl rfl rfl (by simp)) (Bn (vs:=[]) (v:=(.bool (true))) (c_tells hg hnr) Tryd.func17 rfl rfl trivial ?_)
 refine Aa rfl (Bt rfl (by simp) (v:=(.bool (true))) rfl) ?_
 refine l_A (.bool (true)) rfl rfl ?_
 apply Ac
 apply k34
 refine Aj (Arw (Arz (Arz (Arz (Arz l2 l14) l17) l30) l33)) ?_
 refine Aq ?_
 refine hret _ _ _ ?_
 refine ⟨rfl,rfl,Eq.trans (b:=(.bool (true))) rfl ?_⟩
 rfl
end Go.Proofs.YtoefdnbaklajeaaDoor

namespace Go.Proofs.YtoefdnbaklajeaaDoor
open Go Go.WideShapes Go.ChangeShapes Go.RowKit Go.Conc
set_option maxRecDepth 100000
theorem fakeSales_lifted (os:Os) (started:os.Started) (H:Type) (enc:TypeId × Value→H):ReturnsInLeavingWide {} Tryd.checked os 9 .any (Aqs H enc Rows.fakeSalesSpec Tryd.f9) (Rows.fakeSalesSpec.post enc Tryd.prog Tryd.f9 false true false false):=by
  refine law_lift (r:=4) os started H enc Tryd.func9 rfl rfl (by kernel_rfl) (by decide) (fun ds hd=>?_)
    (ChangeSpec.witness_shaped (enc:=enc) (C:=Tryd.checked) (os:=os) (X:=fun w _=>laidMetH Tryd.prog laidL w) false (World.doorLaid Tryd.prog 2000 os) #[.agg #[.slice none 0 0,.slice none 0 0,.slice none 0 0,.slice none 0 0],.slice none 0 0] 8 rfl (World.shaped_of_RefB (by kernel_rfl) (by kernel_rfl)) (by kernel_rfl) (by kernel_rfl) (by kernel_rfl) (door_met os _)) ?_
  · match ds,hd with
    | [d1,d2],_=>rfl
  · intro W args ds ps hv hA hw hg
    obtain ⟨hl1,hl2⟩:=Sa hA
    match args,hl1,ds,hl2,hA with
    | [v1,v2],_,[d1,d2],_,⟨p1,q1,h1,⟨p2,q2,h2,_,_⟩,_⟩ =>
      obtain ⟨b1,k1⟩:=hv 0 26 v1 rfl rfl
      obtain ⟨b2,k2⟩:=hv 1 30 v2 rfl rfl
      obtain ⟨x1,rx1⟩:=arg_struct dec26 rfl Tryd.underlying26 k1 h1 (weights_at hw (j:=0) rfl rfl)
      obtain ⟨x2,rx2⟩:=arg_slice (dec_list Tryd.underlying30 (by kernel_rfl) (Nat.le_of_ble_eq_true (by kernel_rfl)) (by decide) (dec_int Tryd.underlying3 (by kernel_rfl))) Tryd.underlying30 k2 h2 (weights_at hw (j:=1) rfl rfl)
      exact c_FakeSales hg (fun c vs h=>by cases h) rx1 rx2
theorem fakeSales_row:Rows.FakeSalesSaid :=
  OpenClaim.holds_of_wide_leaving 9 Tryd.f9 rfl rfl rfl rfl rfl rfl rfl ⟨rfl,rfl,rfl,rfl,rfl⟩ rfl rfl rfl rfl rfl (by kernel_rfl) Tryd.func9 (by kernel_rfl)
    (of_decide_eq_true (by kernel_rfl)) (by unfold Func.isWrapper; first | (rw [if_pos (by decide +kernel)]; kernel_rfl) | (rw [if_neg (by decide +kernel)]; exact ⟨rfl,rfl⟩))
    (fun os started H enc _=>fakeSales_lifted os started H enc)
theorem fakeSales_holds:Rows.FakeSalesCardSaid :=
  tied_goes .later [.funcs,.data] true (true,"5ad7a6b1106c4d9dff1ffa762e242e88c7338921ee0cf2e26581c2f653fcb6c6") false fakeSales_row (by kernel_rfl) fakeSales_row_tie rfl ⟨rfl,rfl⟩ (by kernel_rfl) rfl
    (fun f fn hf hfn=>by
      obtain rfl:f = 9:=Option.some.inj ((show Tryd.prog.funcNamed "crocus/crocuslaw08.FakeSales" = some 9 by kernel_rfl).symm.trans hf) |>.symm
      obtain rfl:fn = Tryd.f9:=(Option.some.inj (Tryd.func9.symm.trans hfn)).symm
      exact ⟨by kernel_rfl,fun j t ht=>by
        have h2:t = 26∨t = 30:=by
          match j,ht with
          | 0,h=>exact .inl (Option.some.inj h).symm
          | 1,h=>exact .inr ((Option.some.inj h).symm)
        rcases h2 with rfl | rfl
        · exact (show Tryd.prog.wantsStandIn 26 = false by kernel_rfl)
        · exact (show Tryd.prog.wantsStandIn 30 = false by kernel_rfl)⟩)
    (by kernel_rfl)
end Go.Proofs.YtoefdnbaklajeaaDoor
