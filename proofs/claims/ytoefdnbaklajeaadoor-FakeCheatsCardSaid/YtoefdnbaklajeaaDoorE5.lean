/- Every call of crocuslaw08.FakeCheats returns true, on every schedule, and leaves its arguments as they were: conditions: the two listed package-level variables hold what the program's text lays. -/
import Derived.Test.YtoefdnbaklajeaaDoorB5
import Derived.Carry
import Derived.ChangeArms
import Derived.ChangeSame
import Derived.ChangeVars
import Derived.Conc.Holds
import Derived.Conc.LeavingOf
import Derived.FnData
import Derived.LaidHandle
import Derived.LaidLaws
import Derived.LaidMore
import Derived.Laws.BitsAllLaws
import Derived.Laws.BitsLemmas
import Derived.OpenShut
import Derived.RowKit
import Derived.SizedLaws
import Derived.Stop.Joined
import Derived.Test.YtoefdnbaklajeaaDoorRows
import Derived.WideShapes
set_option linter.unusedVariables false
set_option linter.unusedSimpArgs false
namespace Go.Proofs.YtoefdnbaklajeaaDoor
open Go
section
variable {C:Ctx} {b:FB} {n:Nat} {l₀ rest:List Oper} {Q:Env→List Deferred→Ro→Own→Prop} {e:Env} {ds:List Deferred} {ρ:Ro} {σ:Own}
end
section
variable {P:Program} {ρ:Ro} {e:Env} {ty t t':TypeId} {x y:Operand} {v:Value}
theorem eqGuard_str {op:BinOp} {p q:ByteArray}:eqGuard op t x y (.string p) (.string q) = pure ():=by
  cases op <;> rfl
section
variable {k:IntKind} {p q:Int}
end
end
section
variable {C:Ctx} {b:FB} {n:Nat} {l₀:List Oper} {Q:Env→List Deferred→Ro→Own→Prop} {e:Env} {ds:List Deferred} {ρ ρ₀:Ro} {σ:Own} {pz:List Nat} {fuel:Nat} {listed:Array Bool}
section
variable {d i:Nat} {op:Op} {ty:TypeId} {pos:String} {af:Array Edge} {g:Option (Nat × Bool)} {v:Value} {li:List Bool}
end
end
end Go.Proofs.YtoefdnbaklajeaaDoor

namespace Go.Proofs.YtoefdnbaklajeaaDoor
open Go
section
variable {α:Type} [Dat α] {ρ ρ':Ro}
end
section
variable {P:Program} {ρ:Ro} {σ:Own} {t:TypeId}
end
section
variable {C:Ctx} {b:FB} {n:Nat} {l₀ rest:List Oper} {Q:Env→List Deferred→Ro→Own→Prop} {e:Env} {ds:List Deferred} {ρ:Ro} {σ:Own}
variable {d:Nat} {ty:TypeId} {pos:String} {af:Array Edge} {g:Option (Nat × Bool)} {x y:Operand} {v p:Value} {t:TypeId}
/-- A slice's part. -/
theorem slice_hi {α:Type} [Dat α] {xs:List α} {a:Option Addr} {len cap h:Nat} (hv:Val ρ (.slice a len cap) xs) (hh:h ≤ len):Val ρ (.slice (if cap = 0 then a else a.map (·.add (0 * Dat.k α))) (h - 0) (cap - 0)) (xs.take h):=by
  obtain ⟨a',len',cap',h1,h2,h3,h4,h5⟩:=Cs.1 hv
  cases h1
  refine Cs.2 ⟨a,h,cap,?_,by simp; omega,by omega,by omega,fun i x hx=>?_⟩
  · congr 1
    split
    · rfl
    · cases a with
      | none=>rfl
      | some ad=>simp [Addr.add]
  · rw [List.getElem?_take] at hx
    split at hx
    · exact h5 i x hx
    · cases hx
theorem y_slice_hi {P:Program} {α:Type} [Dat α] {xs:List α} {el:TypeId} {k:IntKind} {q:Int} (h:Nat) (hT:P.underlying t = some (.slice el)) (hE:GoTy P el α) (hx:Af e x = v) (hv:Val ρ v xs) (hy:Af e y = .int k q) (hq:q = (h:Int)) (hh:h ≤ xs.length) :
    ∃ w,Val ρ w (xs.take h)∧Yld P ρ e (.slice t x none (some y) none) ty w:=by
  obtain ⟨a,len,cap,h1,h2,h3,h4,h5⟩:=Cs.1 hv
  subst h1
  refine ⟨_,slice_hi hv (by omega),Mf (s:=Instr.sliceAt t (Af e x) none (some (Af e y)) none) (fun _ _ _ _=>rfl) fun ρ' σ _=>?_⟩
  rw [hx,hy,hq]
  show wpS P ρ' ((underlying t).bind _) σ _
  rw [Ad]
  refine Az hT ?_
  show wpS P ρ' ((underlying t).bind _) σ _
  rw [Ad]
  refine Az hT ?_
  simp only []
  show wpS P ρ' ((Instr.sliceBounds true len cap none (some (.int k h)) none).bind _) σ _
  have hb:Instr.sliceBounds true len cap none (some (.int k (h:Int))) none = pure (0,h,cap):=by
    show (do let m ← pure cap; let hh ← Instr.sliceBound (.int k (h:Int)) m _; let l ← pure 0; pure (l,hh,m):Sem _) = _
    have:Instr.sliceBound (.int k (h:Int)) cap .sliceAcap = pure h:=by
      show (if 0 ≤ (h:Int)∧(h:Int) ≤ cap then pure (h:Int).toNat else _) = _
      rw [if_pos (by omega)]; simp
    show (Instr.sliceBound (.int k (h:Int)) cap .sliceAcap).bind _ = _
    rw [this]; rfl
  rw [hb]
  show wpS P ρ' ((sizeOf el).bind _) σ _
  rw [Ad]
  exact Dw hE.info ⟨rfl,rfl⟩
end
end Go.Proofs.YtoefdnbaklajeaaDoor

namespace Go.Proofs.YtoefdnbaklajeaaDoor
open Go
section
variable {C:Ctx} {b:FB} {n:Nat} {l₀ rest:List Oper} {Q:Env→List Deferred→Ro→Own→Prop} {Q':Hv} {e:Env} {ds:List Deferred} {ρ:Ro} {σ:Own}
variable {d:Nat} {ty:TypeId} {pos:String} {af:Array Edge} {g:Option (Nat × Bool)} {x y:Operand} {v p:Value} {t t':TypeId}
section
variable {P:Program}
theorem y_rem {k:IntKind} {p q z:Int} (hx:Af e x = .int k p) (hy:Af e y = .int k q) (h0:q ≠ 0) (hz:p.tmod q = z):Yld P ρ e (.binOp .rem t x y t') ty (.int k z) :=
  Ju hx hy Dh (by subst hz; simp only [binOp]; rw [if_neg (by simp)]; unfold Op.intDiv; rw [if_neg h0])
end
section
variable {P:Program}
theorem y_eqs {p q:ByteArray} (hx:Af e x = .string p) (hy:Af e y = .string q):Yld P ρ e (.binOp .eql t x y t') ty (.bool (p.toList == q.toList)):=Ju hx hy eqGuard_str (by simp only [binOp]; rfl)
end
end
end Go.Proofs.YtoefdnbaklajeaaDoor

namespace Go.Proofs.YtoefdnbaklajeaaDoor
open Go
section
variable {C:Ctx} {e:Env} {ds:List Deferred} {ρ:Ro} {σ:Own} {K:Value→List Deferred→Ro→Own→Prop} {rd:Option Nat} {dd:Option Tmp}
variable {ty:TypeId} {pos:String} {af:Array Edge} {g:Option (Nat × Bool)} {x y u:Operand} {v p:Value} {t t':TypeId} {P:Program}
theorem w_storeG {α:Type} [Dat α] {xs:List α} {a:α} {gr:Own} {el:TypeId} {w:Value} {off i:Nat} (hE:∃ i,C.P.info? t = some i∧i.size = Dat.k α) (hx:Af e x = .pointer (some ⟨Aiv v,off,none⟩)) (ho:off = i * Dat.k α) (hy:Af e y = w) (hw:Val ρ w a) (hv:Grow ρ el v xs gr) (hi:i < xs.length)
    (h:∀ gr',Grow ρ el v (xs.set i a) gr'→K undef ds ρ (gr' ++ σ)):wpS C.P ρ (execOp (Af e) ⟨dd,.store t x y,ty,pos,af,g⟩) (gr ++ σ) (NextH C K rd ds ρ):=by
  obtain ⟨wc,h1,h2,h3⟩:=hw.cells
  rcases hv.2.2 with ⟨_,h2⟩ | ⟨r,cap,cs,rs,gb,e1,e2,hr,hl,hc⟩
  · rw [h2] at hi; simp at hi
  · subst e1 e2
    have hwl:=Dat.len h1
    have hcl:=hr.len
    have hb:i * Dat.k α + Dat.k α ≤ xs.length * Dat.k α:=by rw [← Nat.succ_mul]; exact Nat.mul_le_mul_right _ hi
    -- the row,cut at the element
    obtain ⟨ca,cb,cc,f1,f2,f3,f4⟩:∃ ca cb cc,cs = ca ++ (cb ++ cc)∧ca.length = i * Dat.k α∧cb.length = Dat.k α∧Rows ρ (ca ++ (wc ++ cc)) (xs.set i a):=by
      clear hv h hx hl hc hb hcl ho
      induction xs generalizing cs i with
      | nil=>simp at hi
      | cons z zs ih =>
        obtain ⟨c1,c2,g1,g2,g3⟩:=hr
        have hz:=Dat.len g2
        cases i with
        | zero=>exact ⟨[],c1,c2,by simp [g1],by simp,hz,wc,c2,rfl,h1,g3⟩
        | succ i =>
          obtain ⟨ca,cb,cc,f1,f2,f3,f4⟩:=ih (i:=i) (by simpa using hi) _ g3
          refine ⟨c1 ++ ca,cb,cc,by rw [g1,f1]; simp,by rw [List.length_append,hz,f2,Nat.add_mul,Nat.one_mul,Nat.add_comm],f3,c1,ca ++ (wc ++ cc),by simp,g2,f4⟩
    refine Ld (i:=0) (off:=off) (vs:=wc) (c:=cs ++ rs) (c':=(ca ++ (wc ++ cc)) ++ rs) hE hx hy h3 hwl (Dat.sgl h1) rfl (by rw [List.length_append,hcl,hwl,ho]; omega) ?_ ?_
    · rw [Py _ _ _ (by rw [List.length_append,hcl,hwl,ho]; omega),f1,ho,← f2,hwl,← f3]
      rw [List.append_assoc,List.take_left,← List.append_assoc ca,← List.drop_drop]
      simp [List.append_assoc]
    · refine h ((r,.obj (.cells ((ca ++ (wc ++ cc)) ++ rs).toArray el (0,0))) :: gb) ⟨fun p hp=>?_,by rw [List.length_set]; exact hv.2.1,.inr ⟨r,cap,ca ++ (wc ++ cc),rs,gb,by rw [List.length_set],rfl,f4,?_,by rw [List.length_set]; exact hc⟩⟩
      · rcases List.mem_cons.1 hp with rfl | hp
        · exact ⟨_,rfl⟩
        · exact hv.1 p (List.mem_cons_of_mem _ hp)
      · rw [← hl,f1]; simp [hwl,f3]
end
section
variable {C:Ctx} {b:FB} {l₀:List Oper} {Q:Env→List Deferred→Ro→Own→Prop} {ds:List Deferred} {ρ₀ ρ₁:Ro} {pz:List Nat}
end
end Go.Proofs.YtoefdnbaklajeaaDoor

namespace Go.Proofs.YtoefdnbaklajeaaDoor
open Go Go.WideShapes
theorem reach_lt {n:Nat} (h:n ≤ reachBytes):n < 2 ^ 60:=by unfold reachBytes at h; omega
theorem dec_int {t:TypeId} (ht:Tryd.prog.underlying t = some (.int .i64)) (hc:Tryd.prog.cellsOf t = 1):Apq Int t :=
  ⟨hc,fun H enc W fuel cs x h _=>by
    obtain ⟨n,h1,_,h3⟩:=DataW.trod_int ht h
    refine ⟨n,h1,?_⟩
    simp [Lit.wf,IntKind.min,IntKind.max,IntKind.signed,IntKind.bits] at h3
    exact ⟨by omega,by omega⟩⟩
theorem dec_str {t:TypeId} (ht:Tryd.prog.underlying t = some .string) (hc:Tryd.prog.cellsOf t = 1):Apq ByteArray t :=
  ⟨hc,fun H enc W fuel cs x h hw=>by
    obtain ⟨s,h1,h2,_⟩:=DataW.trod_string ht h
    refine ⟨s,h1,reach_lt ?_⟩
    have:=hw s.data.toList.length (by rw [h2]; simp [DataW.weights])
    simpa using this⟩
theorem list_of {α:Type} {P:Nat→α→Prop}:∀ n,(∀ i,i < n→∃ a,P i a)→∃ xs:List α,xs.length = n∧∀ i x,xs[i]? = some x→P i x
  | 0,_=>⟨[],rfl,fun i x h=>by cases h⟩
  | n + 1,h=>by
    obtain ⟨xs,h1,h2⟩:=list_of n fun i hi=>h i (by omega)
    obtain ⟨a,ha⟩:=h n (by omega)
    refine ⟨xs ++ [a],by simp [h1],fun i x hx=>?_⟩
    rcases Nat.lt_or_ge i n with hlt | hge
    · rw [List.getElem?_append_left (by omega)] at hx; exact h2 i x hx
    · have hi:i = n:=by
        have:=(List.getElem?_eq_some_iff.1 hx).1
        simp only [List.length_append,List.length_singleton] at this; omega
      subst hi
      rw [List.getElem?_append_right (by omega),h1,Nat.sub_self] at hx
      cases hx; exact ha
theorem add_0 {a:Addr}:a.add 0 = a:=by simp [Addr.add]
theorem add_none {b off i:Nat}:(⟨b,off,none⟩:Addr).add i = ⟨b,off + i,none⟩:=by
  unfold Addr.add; split
  · rename_i h; subst h; rfl
  · rfl
theorem row_cells {W:World} {a:Addr} {k:Nat} {cs:List Value} (hk:1 ≤ k) (h:W.cells? 0 a k = some cs):∃ b off c t fz rest,a = ⟨b,off,none⟩∧W.heap[b]? = some (.cells c t fz)∧c.toList.drop off = cs ++ rest∧cs.length = k:=by
  unfold World.cells? at h
  rw [if_pos (Nat.zero_le _)] at h
  have hl:=mapM_some_length h
  rw [List.length_range] at hl
  have hg:∀ j,j < k→W.cell? (a.add j) = cs[j]?:=fun j hj=>mapM_some_get h j j (by rw [List.getElem?_range hj])
  obtain ⟨b,off,spot⟩:=a
  have h0:=hg 0 hk
  rw [add_0] at h0
  obtain ⟨v,hv⟩:∃ v,cs[0]? = some v:=⟨_,List.getElem?_eq_getElem (by omega)⟩
  rw [hv] at h0
  unfold World.cell? at h0
  simp only at h0
  cases hb:W.heap[b]? with
  | none=>rw [hb] at h0; cases h0
  | some o =>
    cases o with
    | cells c t fz =>
      rw [hb] at h0
      simp only at h0
      cases spot with
      | some s=>simp at h0
      | none =>
        refine ⟨b,off,c,t,fz,(c.toList.drop off).drop k,rfl,hb,?_,hl⟩
        have e1:(c.toList.drop off).take k = cs:=by
          apply List.ext_getElem?
          intro j
          rw [List.getElem?_take]
          by_cases hj:j < k
          · rw [if_pos hj,← hg j hj,List.getElem?_drop,add_none]
            unfold World.cell?
            simp only [hb]
            simp
          · rw [if_neg hj,List.getElem?_eq_none (by omega)]
        rw [← e1,List.take_append_drop]
    | _=>rw [hb] at h0; cases h0
theorem weightsAll_mem {H:Type} {P:Program} {e:TypeId}:∀ {ds:List (DataW H)} {d:DataW H} {n:Nat},d ∈ ds→n ∈ d.weights P e→n ∈ DataW.weightsAll P e ds
  | [],_,_,h,_=>by cases h
  | d' :: ds,d,n,h,hn=>by
    rw [DataW.weightsAll,List.mem_append]
    rcases List.mem_cons.1 h with rfl | h
    · exact .inl hn
    · exact .inr (weightsAll_mem h hn)
theorem dec_list {α:Type} [Dat α] {t e:TypeId} (ht:Tryd.prog.underlying t = some (.slice e)) (hc:Tryd.prog.cellsOf t = 1) (hb:1 ≤ Tryd.prog.bytesOf e) (hk:1 ≤ Dat.k α) (he:Apq α e):Apq (List α) t :=
  ⟨hc,fun H enc W fuel cs x h hw=>by
    rcases DataW.trod_slice ht h with ⟨h1,_⟩ | ⟨a,len,cap,Av,rest,n,_,h2,h3,_,h5,_,h6,h7,_,_⟩
    · exact ⟨[],_,h1,none,0,0,rfl,rfl,by omega,Nat.le_refl _,fun i x hx=>by cases hx⟩
    · rw [h3] at hw
      simp only [DataW.weights,ht] at hw
      have hlen:len < 2 ^ 60:=by
        have:=hw _ (List.mem_cons_self ..)
        simp only [List.length_map] at this
        refine reach_lt (Nat.le_trans ?_ this)
        rw [h6]
        exact Nat.le_trans (Nat.le_trans (Nat.le_add_right _ _) (Nat.le_of_eq (Nat.mul_one _).symm)) (Nat.mul_le_mul_left _ hb)
      obtain ⟨xs,hx1,hx2⟩:=list_of (P:=fun i (y:α)=>∃ cs,W.cells? 0 (a.add (i * Tryd.prog.cellsOf e)) (Tryd.prog.cellsOf e) = some cs∧Dat.rep (roW W) cs y) len fun i hi=>by
        have h8:=h7 i hi
        obtain ⟨y,hy⟩:∃ y,Av[i]? = some y:=⟨_,List.getElem?_eq_getElem (by omega)⟩
        rw [hy,Option.bind_eq_some_iff] at h8
        obtain ⟨ci,hc1,hc2⟩:=h8
        obtain ⟨z,hz⟩:=he.2 H enc W n ci y hc2 fun m hm=>hw m (List.mem_cons_of_mem _ (List.mem_append_left _ (weightsAll_mem (List.mem_map_of_mem (List.mem_of_getElem? hy)) hm)))
        exact ⟨z,ci,hc1,hz⟩
      refine ⟨xs,_,h2,some a,len,cap,rfl,hx1,hlen,h5,fun i y hy=>?_⟩
      obtain ⟨b',off',rfl⟩:∃ b' off',a = ⟨b',off',none⟩:=by
        have hi:=(List.getElem?_eq_some_iff.1 hy).1
        obtain ⟨y0,hy0⟩:∃ y0,xs[0]? = some y0:=⟨_,List.getElem?_eq_getElem (by omega)⟩
        obtain ⟨ci,hc1,_⟩:=hx2 0 y0 hy0
        rw [he.1,Nat.zero_mul,add_0] at hc1
        obtain ⟨b,off,_,_,_,_,h8,_⟩:=row_cells hk hc1
        exact ⟨b,off,h8⟩
      obtain ⟨ci,hc1,hc2⟩:=hx2 i y hy
      rw [he.1,add_none] at hc1
      obtain ⟨b,off,c,t',fz,rs,h8,h9,h10,_⟩:=row_cells hk hc1
      simp only [Addr.mk.injEq,and_true] at h8
      obtain ⟨rfl,rfl⟩:=h8
      exact ⟨b',off',rfl,b',_,c,t',fz,ci,rs,rfl,Vs h9,hc2,h10⟩⟩
theorem cut_at (cs:List Value) (a k:Nat):cs.drop a = (cs.drop a).take k ++ cs.drop (a + k):=by rw [← List.drop_drop,List.take_append_drop]
theorem field_at {H:Type} {enc:TypeId × Value→H} {W:World} {n:Nat} {cs:List Value} {xs:List (DataW H × List MemPlace)} {fs:Array Field} {t:TypeId} (ht:Tryd.prog.underlying t = some (.struct fs)) (hl:xs.length = fs.size) (h:∀ (i:Nat) (f:Field),fs[i]? = some f→DataW.trod enc Tryd.prog W 0 (fun _=>true) true n f.type ((cs.drop f.offset).take (Tryd.prog.cellsOf f.type)) = xs[i]?)
    (hw:∀ m ∈ (DataW.agg (xs.map (·.1)):DataW H).weights Tryd.prog t,m ≤ reachBytes) {α:Type} [Dat α] {i ft off:Nat} {f:Field} (hf:fs[i]? = some f) (h1:f.type = ft) (h2:f.offset = off) (hd:Apq α ft):∃ a:α,Dat.rep (roW W) ((cs.drop off).take (Dat.k α)) a:=by
  subst h1 h2
  have hi:=(Array.getElem?_eq_some_iff.1 hf).1
  obtain ⟨y,hy⟩:∃ y,xs[i]? = some y:=⟨_,List.getElem?_eq_getElem (by omega)⟩
  have h3:=h i f hf
  rw [hy,hd.1] at h3
  refine hd.2 H enc W n _ y h3 fun m hm=>hw m ?_
  simp only [DataW.weights,ht]
  exact DataW.weights_mem_each (j:=i) (t:=f.type) (d:=y.1) (by simp [Array.getElem?_toList,hf]) (by simp [hy]) m hm
theorem dec65:Apq Span 65:=⟨by kernel_rfl,fun H enc W fuel cs x h hw=>by
  obtain ⟨xs,n,_,rfl,hcl,hl,hf⟩:=DataW.trod_struct Tryd.underlying65 h
  rw [show Tryd.prog.cellsOf 65 = 2 from by kernel_rfl] at hcl
  obtain ⟨a0,r0⟩:=field_at (i:=0) Tryd.underlying65 hl hf hw rfl rfl (show _ = 0 from rfl) (dec_int Tryd.underlying3 (by kernel_rfl))
  obtain ⟨a1,r1⟩:=field_at (i:=1) Tryd.underlying65 hl hf hw rfl rfl (show _ = 1 from rfl) (dec_int Tryd.underlying3 (by kernel_rfl))
  refine ⟨⟨a0,a1⟩,?_⟩
  have e0:cs = cs.drop 0:=rfl
  rw [e0]
  exact ⟨(cs.drop 0).take 1,cs.drop 1,(cut_at cs 0 1).trans (by rfl),r0,(show Dat.rep (roW W) (cs.drop 1) a1 from by (have:=r1; rw [List.take_of_length_le (by rw [List.length_drop,hcl]; decide)] at this; exact this))⟩⟩
theorem dec67:Apq FField 67:=⟨by kernel_rfl,fun H enc W fuel cs x h hw=>by
  obtain ⟨xs,n,_,rfl,hcl,hl,hf⟩:=DataW.trod_struct Tryd.underlying67 h
  rw [show Tryd.prog.cellsOf 67 = 5 from by kernel_rfl] at hcl
  obtain ⟨a0,r0⟩:=field_at (i:=0) Tryd.underlying67 hl hf hw rfl rfl (show _ = 0 from rfl) (dec_str Tryd.underlying9 (by kernel_rfl))
  obtain ⟨a1,r1⟩:=field_at (i:=1) Tryd.underlying67 hl hf hw rfl rfl (show _ = 1 from rfl) (dec_int Tryd.underlying3 (by kernel_rfl))
  obtain ⟨a2,r2⟩:=field_at (i:=2) Tryd.underlying67 hl hf hw rfl rfl (show _ = 2 from rfl) dec65
  obtain ⟨a3,r3⟩:=field_at (i:=3) Tryd.underlying67 hl hf hw rfl rfl (show _ = 4 from rfl) (dec_list Tryd.underlying27 (by kernel_rfl) (Nat.le_of_ble_eq_true (by kernel_rfl)) (by decide) dec65)
  refine ⟨⟨a0,a1,a2,a3⟩,?_⟩
  have e0:cs = cs.drop 0:=rfl
  rw [e0]
  exact ⟨(cs.drop 0).take 1,cs.drop 1,(cut_at cs 0 1).trans (by rfl),r0,⟨(cs.drop 1).take 1,cs.drop 2,(cut_at cs 1 1).trans (by rfl),r1,⟨(cs.drop 2).take 2,cs.drop 4,(cut_at cs 2 2).trans (by rfl),r2,(show Dat.rep (roW W) (cs.drop 4) a3 from by (have:=r3; rw [List.take_of_length_le (by rw [List.length_drop,hcl]; decide)] at this; exact this))⟩⟩⟩⟩
theorem dec59:Apq Sale 59:=⟨by kernel_rfl,fun H enc W fuel cs x h hw=>by
  obtain ⟨xs,n,_,rfl,hcl,hl,hf⟩:=DataW.trod_struct Tryd.underlying59 h
  rw [show Tryd.prog.cellsOf 59 = 2 from by kernel_rfl] at hcl
  obtain ⟨a0,r0⟩:=field_at (i:=0) Tryd.underlying59 hl hf hw rfl rfl (show _ = 0 from rfl) (dec_int Tryd.underlying3 (by kernel_rfl))
  obtain ⟨a1,r1⟩:=field_at (i:=1) Tryd.underlying59 hl hf hw rfl rfl (show _ = 1 from rfl) (dec_list Tryd.underlying30 (by kernel_rfl) (Nat.le_of_ble_eq_true (by kernel_rfl)) (by decide) (dec_int Tryd.underlying3 (by kernel_rfl)))
  refine ⟨⟨a0,a1⟩,?_⟩
  have e0:cs = cs.drop 0:=rfl
  rw [e0]
  exact ⟨(cs.drop 0).take 1,cs.drop 1,(cut_at cs 0 1).trans (by rfl),r0,(show Dat.rep (roW W) (cs.drop 1) a1 from by (have:=r1; rw [List.take_of_length_le (by rw [List.length_drop,hcl]; decide)] at this; exact this))⟩⟩
theorem dec26:Apq Market 26:=⟨by kernel_rfl,fun H enc W fuel cs x h hw=>by
  obtain ⟨xs,n,_,rfl,hcl,hl,hf⟩:=DataW.trod_struct Tryd.underlying26 h
  rw [show Tryd.prog.cellsOf 26 = 4 from by kernel_rfl] at hcl
  obtain ⟨a0,r0⟩:=field_at (i:=0) Tryd.underlying26 hl hf hw rfl rfl (show _ = 0 from rfl) (dec_list Tryd.underlying22 (by kernel_rfl) (Nat.le_of_ble_eq_true (by kernel_rfl)) (by decide) (dec_str Tryd.underlying9 (by kernel_rfl)))
  obtain ⟨a1,r1⟩:=field_at (i:=1) Tryd.underlying26 hl hf hw rfl rfl (show _ = 1 from rfl) (dec_list Tryd.underlying22 (by kernel_rfl) (Nat.le_of_ble_eq_true (by kernel_rfl)) (by decide) (dec_str Tryd.underlying9 (by kernel_rfl)))
  obtain ⟨a2,r2⟩:=field_at (i:=2) Tryd.underlying26 hl hf hw rfl rfl (show _ = 2 from rfl) (dec_list Tryd.underlying23 (by kernel_rfl) (Nat.le_of_ble_eq_true (by kernel_rfl)) (by decide) dec67)
  obtain ⟨a3,r3⟩:=field_at (i:=3) Tryd.underlying26 hl hf hw rfl rfl (show _ = 3 from rfl) (dec_list Tryd.underlying24 (by kernel_rfl) (Nat.le_of_ble_eq_true (by kernel_rfl)) (by decide) dec59)
  refine ⟨⟨a0,a1,a2,a3⟩,?_⟩
  have e0:cs = cs.drop 0:=rfl
  rw [e0]
  exact ⟨(cs.drop 0).take 1,cs.drop 1,(cut_at cs 0 1).trans (by rfl),r0,⟨(cs.drop 1).take 1,cs.drop 2,(cut_at cs 1 1).trans (by rfl),r1,⟨(cs.drop 2).take 1,cs.drop 3,(cut_at cs 2 1).trans (by rfl),r2,(show Dat.rep (roW W) (cs.drop 3) a3 from by (have:=r3; rw [List.take_of_length_le (by rw [List.length_drop,hcl]; decide)] at this; exact this))⟩⟩⟩⟩
end Go.Proofs.YtoefdnbaklajeaaDoor

namespace Go.Proofs.YtoefdnbaklajeaaDoor
open Go Go.WideShapes Go.ChangeShapes Go.RowKit Go.Conc
section
variable {H:Type} {enc:TypeId × Value→H} {W:World} {r:Reach} {base t:Nat} {v:Value} {d:DataW H} {p:List MemPlace}
end
theorem weights_at {H:Type} {P:Program} {ts:List TypeId} {ds:List (DataW H)} (h:(DataW.weightsEach P ts ds).all (· ≤ reachBytes) = true) {j:Nat} {t:TypeId} {d:DataW H} (ht:ts[j]? = some t) (hd:ds[j]? = some d):∀ n ∈ d.weights P t,n ≤ reachBytes:=fun n hn=>by
  have:=List.all_eq_true.1 h _ (DataW.weights_mem_each ht hd n hn)
  simpa using this
end Go.Proofs.YtoefdnbaklajeaaDoor

namespace Go.Proofs.YtoefdnbaklajeaaDoor
open Go
theorem okAll_t {s:ByteArray}:(List.range s.size).all (Alz s) = true↔∀ j,j < s.size→Alz s j = true:=by simp
theorem okAll_f {s:ByteArray} {j:Nat} (h:j < s.size) (h0:Alz s j = false):(List.range s.size).all (Alz s) = false:=by
  cases hh:(List.range s.size).all (Alz s) with
  | false=>rfl
  | true=>rw [okAll_t.1 hh j h] at h0; cases h0
end Go.Proofs.YtoefdnbaklajeaaDoor

namespace Go.Proofs.YtoefdnbaklajeaaDoor
open Go
set_option maxRecDepth 100000 in
theorem c_In {mn:Bool} {X:Frame→List Frame→Ro→Own→Cy→Prop} {ρ:Ro} {σ:Own} {n low high:Int} :CallsH (CX mn X) 79 #[(iV (n)),(iV (low)),(iV (high))] ρ σ (fun w ρ' σ'=>ρ' = ρ∧σ' = σ∧w = (.bool (inR n low high))):=by
 refine Bh (n:=15) (args:=[(iV (n)),(iV (low)),(iV (high))]) [6] Tryd.func79 rfl rfl rfl rfl fun Q hret hnor=>?_
 refine w_q rfl rfl fun K1 k1=>?_
 refine l_A (.bool (false)) rfl rfl ?_
 apply Ac
 apply k1
 refine w_q rfl rfl fun K2 k2=>?_
 refine l_M (iV (low)) rfl rfl ?_
 refine l_M (iV (n)) rfl rfl ?_
 refine Aa rfl (Tx (p:=low) (q:=n) rfl rfl) ?_
 refine l_M (.bool (decide (low ≤ n))) rfl rfl ?_
 refine Cn (decide (low ≤ n)) (fun b3=>?_) (fun b3=>?_)
 ·have q3:=of_decide_eq_true b3
  refine l_M (iV (n)) (Ar rfl rfl rfl b3) rfl ?_
  refine l_M (iV (high)) (Ar rfl rfl rfl b3) rfl ?_
  refine Aa (Ar rfl rfl rfl b3) (Tx (p:=n) (q:=high) rfl rfl) ?_
  refine Aa rfl (Bt rfl b3 (v:=(.bool (decide (n ≤ high)))) rfl) ?_
  refine l_A (.bool (decide (n ≤ high))) rfl rfl ?_
  apply Ac
  apply k2
  refine Aq ?_
  refine hret _ _ _ ?_
  refine ⟨rfl,rfl,Eq.trans (b:=(.bool (decide (n ≤ high)))) rfl ?_⟩
  simp only [inR,b3,Bool.true_and,Bool.false_and,Bool.and_true,Bool.and_false,Bool.true_or,Bool.false_or,Bool.or_true,Bool.or_false,Bool.not_true,Bool.not_false]
 have q3:=of_decide_eq_false b3
 refine Ap (Bl rfl rfl rfl b3) ?_
 refine Ap (Bl rfl rfl rfl b3) ?_
 refine Ap (Bl rfl rfl rfl b3) ?_
 refine Aa rfl (Bm rfl b3 (v:=(.bool (false))) rfl) ?_
 refine l_A (.bool (false)) rfl rfl ?_
 apply Ac
 apply k2
 refine Aq ?_
 refine hret _ _ _ ?_
 refine ⟨rfl,rfl,Eq.trans (b:=(.bool (false))) rfl ?_⟩
 simp only [inR,b3,Bool.true_and,Bool.false_and,Bool.and_true,Bool.and_false,Bool.true_or,Bool.false_or,Bool.or_true,Bool.or_false,Bool.not_true,Bool.not_false]
set_option maxRecDepth 100000 in
theorem c_Inside {mn:Bool} {X:Frame→List Frame→Ro→Own→Cy→Prop} {ρ:Ro} {σ:Own} {x:Span} {vx:Value} {low high:Int} (rx:Val ρ vx x):CallsH (CX mn X) 80 #[vx,(iV (low)),(iV (high))] ρ σ (fun w ρ' σ'=>ρ' = ρ∧σ' = σ∧w = (.bool (Eg x low high))):=by
 refine Bh (n:=24) (args:=[vx,(iV (low)),(iV (high))]) [6] Tryd.func80 rfl rfl rfl rfl fun Q hret hnor=>?_
 refine w_q rfl rfl fun K1 k1=>?_
 refine Ae rfl (Eb (v:=vx) rfl fun k2=>?_)
 refine Bb (a:=x) rx fun ρ2 l2 r2=>?_
 replace rx:=Asa l2 rx
 refine l_A (.bool (false)) rfl rfl ?_
 apply Ac
 apply k1
 refine w_q rfl rfl fun K3 k3=>?_
 refine l_M (iV (low)) rfl rfl ?_
 refine Ak rfl (Ay Span.f_low Tryd.underlying65 rfl rfl ty3 (by decide) rfl r2) fun v4 r4=>?_
 have ⟨g5a,g5b⟩:=At.rng r4
 refine Aa rfl (Bc ty3 rfl r4) ?_
 refine Aa rfl (Tx (p:=low) (q:=x.low) rfl rfl) ?_
 refine l_M (.bool (decide (low ≤ x.low))) rfl rfl ?_
 refine Cn (decide (low ≤ x.low)) (fun b6=>?_) (fun b6=>?_)
 ·have q6:=of_decide_eq_true b6
  refine Ak (Ar rfl rfl rfl b6) (Ay Span.f_low Tryd.underlying65 rfl rfl ty3 (by decide) rfl r2) fun v7 r7=>?_
  have ⟨g8a,g8b⟩:=At.rng r7
  refine Aa (Ar rfl rfl rfl b6) (Bc ty3 rfl r7) ?_
  refine Ak (Ar rfl rfl rfl b6) (Ay Span.f_high Tryd.underlying65 rfl rfl ty3 (by decide) rfl r2) fun v9 r9=>?_
  have ⟨g10a,g10b⟩:=At.rng r9
  refine Aa (Ar rfl rfl rfl b6) (Bc ty3 rfl r9) ?_
  refine Aa (Ar rfl rfl rfl b6) (Tx (p:=x.low) (q:=x.high) rfl rfl) ?_
  refine Aa rfl (Bt rfl b6 (v:=(.bool (decide (x.low ≤ x.high)))) rfl) ?_
  refine l_M (.bool (decide (x.low ≤ x.high))) rfl rfl ?_
  refine Cn (decide (x.low ≤ x.high)) (fun b11=>?_) (fun b11=>?_)
  ·have q11:=of_decide_eq_true b11
   refine Ak (Ar rfl rfl rfl b11) (Ay Span.f_high Tryd.underlying65 rfl rfl ty3 (by decide) rfl r2) fun v12 r12=>?_
   have ⟨g13a,g13b⟩:=At.rng r12
   refine Aa (Ar rfl rfl rfl b11) (Bc ty3 rfl r12) ?_
   refine l_M (iV (high)) (Ar rfl rfl rfl b11) rfl ?_
   refine Aa (Ar rfl rfl rfl b11) (Tx (p:=x.high) (q:=high) rfl rfl) ?_
   refine Aa rfl (Bt rfl b11 (v:=(.bool (decide (x.high ≤ high)))) rfl) ?_
   refine l_A (.bool (decide (x.high ≤ high))) rfl rfl ?_
   apply Ac
   apply k3
   refine Aj (Arw l2) ?_
   refine Aq ?_
   refine hret _ _ _ ?_
   refine ⟨rfl,rfl,Eq.trans (b:=(.bool (decide (x.high ≤ high)))) rfl ?_⟩
   simp only [Eg,b6,b11,Bool.true_and,Bool.false_and,Bool.and_true,Bool.and_false,Bool.true_or,Bool.false_or,Bool.or_true,Bool.or_false,Bool.not_true,Bool.not_false]
  have q11:=of_decide_eq_false b11
  refine Ap (Bl rfl rfl rfl b11) ?_
  refine Ap (Bl rfl rfl rfl b11) ?_
  refine Ap (Bl rfl rfl rfl b11) ?_
  refine Ap (Bl rfl rfl rfl b11) ?_
  refine Aa rfl (Bm rfl b11 (v:=(.bool (false))) rfl) ?_
  refine l_A (.bool (false)) rfl rfl ?_
  apply Ac
  apply k3
  refine Aj (Arw l2) ?_
  refine Aq ?_
  refine hret _ _ _ ?_
  refine ⟨rfl,rfl,Eq.trans (b:=(.bool (false))) rfl ?_⟩
  simp only [Eg,b6,b11,Bool.true_and,Bool.false_and,Bool.and_true,Bool.and_false,Bool.true_or,Bool.false_or,Bool.or_true,Bool.or_false,Bool.not_true,Bool.not_false]
 have q6:=of_decide_eq_false b6
 refine Ap (Bl rfl rfl rfl b6) ?_
 refine Ap (Bl rfl rfl rfl b6) ?_
 refine Ap (Bl rfl rfl rfl b6) ?_
 refine Ap (Bl rfl rfl rfl b6) ?_
 refine Ap (Bl rfl rfl rfl b6) ?_
 refine Aa rfl (Bm rfl b6 (v:=(.bool (false))) rfl) ?_
 refine l_M (.bool (false)) rfl rfl ?_
 refine Ap (Bl rfl rfl rfl rfl) ?_
 refine Ap (Bl rfl rfl rfl rfl) ?_
 refine Ap (Bl rfl rfl rfl rfl) ?_
 refine Ap (Bl rfl rfl rfl rfl) ?_
 refine Aa rfl (Bm rfl rfl (v:=(.bool (false))) rfl) ?_
 refine l_A (.bool (false)) rfl rfl ?_
 apply Ac
 apply k3
 refine Aj (Arw l2) ?_
 refine Aq ?_
 refine hret _ _ _ ?_
 refine ⟨rfl,rfl,Eq.trans (b:=(.bool (false))) rfl ?_⟩
 simp only [Eg,b6,Bool.true_and,Bool.false_and,Bool.and_true,Bool.and_false,Bool.true_or,Bool.false_or,Bool.or_true,Bool.or_false,Bool.not_true,Bool.not_false]
set_option maxRecDepth 100000 in
theorem c_Name {mn:Bool} {X:Frame→List Frame→Ro→Own→Cy→Prop} {ρ:Ro} {σ:Own} {s:ByteArray} :CallsH (CX mn X) 78 #[(.string (s))] ρ σ (fun w ρ' σ'=>ρ' = ρ∧σ' = σ∧w = (.bool (Hi s))):=by
 refine Bh (n:=46) (args:=[(.string (s))]) [2] Tryd.func78 rfl rfl rfl rfl fun Q hret hnor=>?_
 refine w_q rfl rfl fun K1 k1=>?_
 refine l_A (.bool (false)) rfl rfl ?_
 apply Ac
 apply k1
 refine Ai fun K2 k2=>?_
 refine w_q rfl rfl fun K3 k3=>?_
 refine l_M (.string (s)) rfl rfl ?_
 refine Aa rfl (Afb Tryd.underlying9 (s:=s) rfl) ?_
 refine Ae rfl (Bn (vs:=[(iV (((s.size:Nat):Int))),(iV (1)),(iV (14))]) (v:=(.bool (inR (((s.size:Nat):Int)) 1 14))) (c_In) Tryd.func79 rfl rfl ⟨rfl,rfl,rfl,trivial⟩ ?_)
 refine Aa rfl (Ix (k:=inR (((s.size:Nat):Int)) 1 14) rfl) ?_
 refine l_M (.bool (!(inR (((s.size:Nat):Int)) 1 14))) rfl rfl ?_
 refine Cn (!(inR (((s.size:Nat):Int)) 1 14)) (fun b4=>?_) (fun b4=>?_)
 ·have b5:=not_eq_t b4
  have q5:=Ui.1 b5
  refine Ap (Bl rfl rfl rfl b4) ?_
  refine Ap (Bl rfl rfl rfl b4) ?_
  refine Ap (Bl rfl rfl rfl b4) ?_
  refine Aa rfl (Bt rfl b4 (v:=(.bool (true))) rfl) ?_
  refine l_M (.bool (true)) rfl rfl ?_
  refine Ap (Bl rfl rfl rfl rfl) ?_
  refine Ap (Bl rfl rfl rfl rfl) ?_
  refine Ap (Bl rfl rfl rfl rfl) ?_
  refine Aa rfl (Bt rfl rfl (v:=(.bool (true))) rfl) ?_
  apply Ac
  apply k3
  refine Co rfl rfl ?_
  refine w_q rfl rfl fun K6 k6=>?_
  refine l_A (.bool (false)) rfl rfl ?_
  apply Ac
  apply k6
  refine Aq ?_
  refine hret _ _ _ ?_
  refine ⟨rfl,rfl,Eq.trans (b:=(.bool (false))) rfl ?_⟩
  simp only [Hi,Pu,b4,b5,Bool.true_and,Bool.false_and,Bool.and_true,Bool.and_false,Bool.true_or,Bool.false_or,Bool.or_true,Bool.or_false,Bool.not_true,Bool.not_false]
 have b7:=not_eq_f b4
 have q7:=Ge.1 b7
 refine l_M (.string (s)) (Ar rfl rfl rfl b4) rfl ?_
 obtain ⟨c8,hc8⟩:=Alh (s:=s) (i:=0) (by omega)
 refine Aa (Ar rfl rfl rfl b4) (Aaw 0 c8 Tryd.underlying9 rfl (q:=0) rfl rfl hc8) ?_
 refine Aa (Ar rfl rfl rfl b4) (Da (p:=((c8.toNat:Nat):Int)) (q:=97) rfl rfl) ?_
 refine Aa rfl (Bm rfl b4 (v:=(.bool (decide (((c8.toNat:Nat):Int) < 97)))) rfl) ?_
 refine l_M (.bool (decide (((c8.toNat:Nat):Int) < 97))) rfl rfl ?_
 refine Cn (decide (((c8.toNat:Nat):Int) < 97)) (fun b9=>?_) (fun b9=>?_)
 ·have q9:=of_decide_eq_true b9
  refine Ap (Bl rfl rfl rfl b9) ?_
  refine Ap (Bl rfl rfl rfl b9) ?_
  refine Ap (Bl rfl rfl rfl b9) ?_
  refine Aa rfl (Bt rfl b9 (v:=(.bool (true))) rfl) ?_
  apply Ac
  apply k3
  refine Co rfl rfl ?_
  refine w_q rfl rfl fun K10 k10=>?_
  refine l_A (.bool (false)) rfl rfl ?_
  apply Ac
  apply k10
  refine Aq ?_
  refine hret _ _ _ ?_
  refine ⟨rfl,rfl,Eq.trans (b:=(.bool (false))) rfl ?_⟩
  simp only [Hi,Pu,hc8,b4,b7,b9,Bool.true_and,Bool.false_and,Bool.and_true,Bool.and_false,Bool.true_or,Bool.false_or,Bool.or_true,Bool.or_false,Bool.not_true,Bool.not_false]
 have q9:=of_decide_eq_false b9
 refine l_M (.string (s)) (Ar rfl rfl rfl b9) rfl ?_
 refine Aa (Ar rfl rfl rfl b9) (Aaw 0 c8 Tryd.underlying9 rfl (q:=0) rfl rfl hc8) ?_
 refine Aa (Ar rfl rfl rfl b9) (Gk (p:=((c8.toNat:Nat):Int)) (q:=122) rfl rfl) ?_
 refine Aa rfl (Bm rfl b9 (v:=(.bool (decide (((c8.toNat:Nat):Int) > 122)))) rfl) ?_
 apply Ac
 apply k3
 refine As (t:=decide (((c8.toNat:Nat):Int) > 122)) rfl (fun b12=>?_) (fun b12=>?_)
 ·have q12:=of_decide_eq_true b12
  refine w_q rfl rfl fun K13 k13=>?_
  refine l_A (.bool (false)) rfl rfl ?_
  apply Ac
  apply k13
  refine Aq ?_
  refine hret _ _ _ ?_
  refine ⟨rfl,rfl,Eq.trans (b:=(.bool (false))) rfl ?_⟩
  simp only [Hi,Pu,hc8,b4,b7,b9,b12,Bool.true_and,Bool.false_and,Bool.and_true,Bool.and_false,Bool.true_or,Bool.false_or,Bool.or_true,Bool.or_false,Bool.not_true,Bool.not_false]
 have q12:=of_decide_eq_false b12
 refine Al ?_
 apply k2
 refine Ai fun K14 k14=>?_
 refine w_q rfl rfl fun K15 k15=>?_
 refine l_A (iV (0)) rfl rfl ?_
 apply Ac
 apply k15
 refine Ao ?_
 refine Cc (fun mm ee dd ρ' σ'=>∃ (i:Nat),(s.size - i) = mm∧[] = dd∧ρ = ρ'∧σ = σ'∧ee 0 = (.string (s))∧ee 3 = (iV ((i:Int)))∧(i ≤ s.size)∧(∀ j,j < i→Alz s j = true)∧True) (m:=_) ⟨0,rfl,rfl,rfl,rfl,rfl,rfl,(Nat.zero_le _),(fun j h=>absurd h (Nat.not_lt_zero _)),trivial⟩ ?_
 rintro m16 e16 _ _ _ ⟨i,rfl,rfl,rfl,rfl,h16_0,h16_3,p16_0,p16_1,_⟩
 refine Ai fun K17 k17=>?_
 refine w_q rfl rfl fun K18 k18=>?_
 refine Aa rfl (Ah (v:=(iV ((i:Int)))) h16_3) ?_
 refine Aa rfl (Ah (v:=(.string (s))) h16_0) ?_
 refine Aa rfl (Afb Tryd.underlying9 (s:=s) rfl) ?_
 refine Aa rfl (Da (p:=(i:Int)) (q:=((s.size:Nat):Int)) rfl rfl) ?_
 apply Ac
 apply k18
 refine As (t:=decide ((i:Int) < ((s.size:Nat):Int))) rfl (fun b19=>?_) (fun b19=>?_)
 ·have q19:=of_decide_eq_true b19
  refine Al ?_
  apply k17
  refine Ai fun K20 k20=>?_
  refine Ao ?_
  refine w_q rfl rfl fun K21 k21=>?_
  refine Aa rfl (Ah (v:=(.string (s))) h16_0) ?_
  refine Aa rfl (Ah (v:=(iV ((i:Int)))) h16_3) ?_
  obtain ⟨c22,hc22⟩:=Alh (s:=s) (i:=i) (by omega)
  refine Aa rfl (Aaw i c22 Tryd.underlying9 rfl (q:=(i:Int)) rfl rfl hc22) ?_
  refine l_A (.int .u8 (((c22.toNat:Nat):Int))) rfl rfl ?_
  apply Ac
  apply k21
  refine w_q rfl rfl fun K23 k23=>?_
  refine l_M (.int .u8 (((c22.toNat:Nat):Int))) rfl rfl ?_
  refine Aa rfl (Da (p:=((c22.toNat:Nat):Int)) (q:=97) rfl rfl) ?_
  refine l_M (.bool (decide (((c22.toNat:Nat):Int) < 97))) rfl rfl ?_
  refine Cn (decide (((c22.toNat:Nat):Int) < 97)) (fun b24=>?_) (fun b24=>?_)
  ·have q24:=of_decide_eq_true b24
   refine Ap (Bl rfl rfl rfl b24) ?_
   refine Ap (Bl rfl rfl rfl b24) ?_
   refine Aa rfl (Bt rfl b24 (v:=(.bool (true))) rfl) ?_
   refine l_M (.bool (true)) rfl rfl ?_
   refine l_M (.int .u8 (((c22.toNat:Nat):Int))) (Ar rfl rfl rfl rfl) rfl ?_
   refine Aa (Ar rfl rfl rfl rfl) (Da (p:=((c22.toNat:Nat):Int)) (q:=48) rfl rfl) ?_
   refine l_M (.bool (decide (((c22.toNat:Nat):Int) < 48))) (Ar rfl rfl rfl rfl) rfl ?_
   refine Cn (decide (((c22.toNat:Nat):Int) < 48)) (fun b25=>?_) (fun b25=>?_)
   ·have q25:=of_decide_eq_true b25
    refine Ap (Bl rfl rfl rfl b25) ?_
    refine Ap (Bl rfl rfl rfl b25) ?_
    refine Aa (Ar rfl rfl rfl rfl) (Bt rfl b25 (v:=(.bool (true))) rfl) ?_
    refine Aa rfl (Bt rfl rfl (v:=(.bool (true))) rfl) ?_
    refine l_M (.bool (true)) rfl rfl ?_
    refine l_M (.int .u8 (((c22.toNat:Nat):Int))) (Ar rfl rfl rfl rfl) rfl ?_
    refine Aa (Ar rfl rfl rfl rfl) (Dg (p:=((c22.toNat:Nat):Int)) (q:=45) rfl rfl) ?_
    refine Aa rfl (Bt rfl rfl (v:=(.bool (((c22.toNat:Nat):Int) != 45))) rfl) ?_
    apply Ac
    apply k23
    refine As (t:=((c22.toNat:Nat):Int) != 45) rfl (fun b26=>?_) (fun b26=>?_)
    ·have q26:=Mb b26
     refine w_q rfl rfl fun K27 k27=>?_
     refine l_A (.bool (false)) rfl rfl ?_
     apply Ac
     apply k27
     refine Aq ?_
     refine hret _ _ _ ?_
     refine ⟨rfl,rfl,Eq.trans (b:=(.bool (false))) rfl ?_⟩
     have hbad:Alz s i = false:=by simp only [Alz,hc22,Pk,b4,b7,b9,b12,b19,b24,b25,b26,Bool.true_and,Bool.false_and,Bool.and_true,Bool.and_false,Bool.true_or,Bool.false_or,Bool.or_true,Bool.or_false,Bool.not_true,Bool.not_false]
     have hall:=okAll_f (by omega) hbad
     simp only [Hi,hall,b4,b7,b9,b12,b19,b24,b25,b26,Bool.true_and,Bool.false_and,Bool.and_true,Bool.and_false,Bool.true_or,Bool.false_or,Bool.or_true,Bool.or_false,Bool.not_true,Bool.not_false]
    have q26:=Jh b26
    refine Al ?_
    apply k20
    refine Ag rfl rfl ?_
    refine Aa rfl (Ah (v:=(iV ((i:Int)))) h16_3) ?_
    refine Aa rfl (Br (p:=(i:Int)) (q:=1) rfl rfl (z:=(((i + 1):Nat):Int)) (Bo (by first | rfl | omega | (push_cast; rfl)) (by omega) (by omega))) ?_
    refine l_A (iV ((((i + 1):Nat):Int))) rfl rfl ?_
    apply Ac
    refine ⟨_,?_,((i + 1)),rfl,rfl,rfl,rfl,h16_0,rfl,(by omega),(Ef p16_1 (by simp only [Alz,hc22,Pk,b4,b7,b9,b12,b19,b24,b25,b26,Bool.true_and,Bool.false_and,Bool.and_true,Bool.and_false,Bool.true_or,Bool.false_or,Bool.or_true,Bool.or_false,Bool.not_true,Bool.not_false])),trivial⟩
    omega
   have q25:=of_decide_eq_false b25
   refine l_M (.int .u8 (((c22.toNat:Nat):Int))) (Ar rfl rfl rfl b25) rfl ?_
   refine Aa (Ar rfl rfl rfl b25) (Gk (p:=((c22.toNat:Nat):Int)) (q:=57) rfl rfl) ?_
   refine Aa (Ar rfl rfl rfl rfl) (Bm rfl b25 (v:=(.bool (decide (((c22.toNat:Nat):Int) > 57)))) rfl) ?_
   refine Aa rfl (Bt rfl rfl (v:=(.bool (decide (((c22.toNat:Nat):Int) > 57)))) rfl) ?_
   refine l_M (.bool (decide (((c22.toNat:Nat):Int) > 57))) rfl rfl ?_
   refine Cn (decide (((c22.toNat:Nat):Int) > 57)) (fun b28=>?_) (fun b28=>?_)
   ·have q28:=of_decide_eq_true b28
    refine l_M (.int .u8 (((c22.toNat:Nat):Int))) (Ar rfl rfl rfl b28) rfl ?_
    refine Aa (Ar rfl rfl rfl b28) (Dg (p:=((c22.toNat:Nat):Int)) (q:=45) rfl rfl) ?_
    refine Aa rfl (Bt rfl b28 (v:=(.bool (((c22.toNat:Nat):Int) != 45))) rfl) ?_
    apply Ac
    apply k23
    refine As (t:=((c22.toNat:Nat):Int) != 45) rfl (fun b29=>?_) (fun b29=>?_)
    ·have q29:=Mb b29
     refine w_q rfl rfl fun K30 k30=>?_
     refine l_A (.bool (false)) rfl rfl ?_
     apply Ac
     apply k30
     refine Aq ?_
     refine hret _ _ _ ?_
     refine ⟨rfl,rfl,Eq.trans (b:=(.bool (false))) rfl ?_⟩
     have hbad:Alz s i = false:=by simp only [Alz,hc22,Pk,b4,b7,b9,b12,b19,b24,b25,b28,b29,Bool.true_and,Bool.false_and,Bool.and_true,Bool.and_false,Bool.true_or,Bool.false_or,Bool.or_true,Bool.or_false,Bool.not_true,Bool.not_false]
     have hall:=okAll_f (by omega) hbad
     simp only [Hi,hall,b4,b7,b9,b12,b19,b24,b25,b28,b29,Bool.true_and,Bool.false_and,Bool.and_true,Bool.and_false,Bool.true_or,Bool.false_or,Bool.or_true,Bool.or_false,Bool.not_true,Bool.not_false]
    have q29:=Jh b29
    refine Al ?_
    apply k20
    refine Ag rfl rfl ?_
    refine Aa rfl (Ah (v:=(iV ((i:Int)))) h16_3) ?_
    refine Aa rfl (Br (p:=(i:Int)) (q:=1) rfl rfl (z:=(((i + 1):Nat):Int)) (Bo (by first | rfl | omega | (push_cast; rfl)) (by omega) (by omega))) ?_
    refine l_A (iV ((((i + 1):Nat):Int))) rfl rfl ?_
    apply Ac
    refine ⟨_,?_,((i + 1)),rfl,rfl,rfl,rfl,h16_0,rfl,(by omega),(Ef p16_1 (by simp only [Alz,hc22,Pk,b4,b7,b9,b12,b19,b24,b25,b28,b29,Bool.true_and,Bool.false_and,Bool.and_true,Bool.and_false,Bool.true_or,Bool.false_or,Bool.or_true,Bool.or_false,Bool.not_true,Bool.not_false])),trivial⟩
    omega
   have q28:=of_decide_eq_false b28
   refine Ap (Bl rfl rfl rfl b28) ?_
   refine Ap (Bl rfl rfl rfl b28) ?_
   refine Aa rfl (Bm rfl b28 (v:=(.bool (false))) rfl) ?_
   apply Ac
   apply k23
   refine Cg rfl rfl ?_
   refine Al ?_
   apply k20
   refine Ag rfl rfl ?_
   refine Aa rfl (Ah (v:=(iV ((i:Int)))) h16_3) ?_
   refine Aa rfl (Br (p:=(i:Int)) (q:=1) rfl rfl (z:=(((i + 1):Nat):Int)) (Bo (by first | rfl | omega | (push_cast; rfl)) (by omega) (by omega))) ?_
   refine l_A (iV ((((i + 1):Nat):Int))) rfl rfl ?_
   apply Ac
   refine ⟨_,?_,((i + 1)),rfl,rfl,rfl,rfl,h16_0,rfl,(by omega),(Ef p16_1 (by simp only [Alz,hc22,Pk,b4,b7,b9,b12,b19,b24,b25,b28,Bool.true_and,Bool.false_and,Bool.and_true,Bool.and_false,Bool.true_or,Bool.false_or,Bool.or_true,Bool.or_false,Bool.not_true,Bool.not_false])),trivial⟩
   omega
  have q24:=of_decide_eq_false b24
  refine l_M (.int .u8 (((c22.toNat:Nat):Int))) (Ar rfl rfl rfl b24) rfl ?_
  refine Aa (Ar rfl rfl rfl b24) (Gk (p:=((c22.toNat:Nat):Int)) (q:=122) rfl rfl) ?_
  refine Aa rfl (Bm rfl b24 (v:=(.bool (decide (((c22.toNat:Nat):Int) > 122)))) rfl) ?_
  refine l_M (.bool (decide (((c22.toNat:Nat):Int) > 122))) rfl rfl ?_
  refine Cn (decide (((c22.toNat:Nat):Int) > 122)) (fun b31=>?_) (fun b31=>?_)
  ·have q31:=of_decide_eq_true b31
   refine l_M (.int .u8 (((c22.toNat:Nat):Int))) (Ar rfl rfl rfl b31) rfl ?_
   refine Aa (Ar rfl rfl rfl b31) (Da (p:=((c22.toNat:Nat):Int)) (q:=48) rfl rfl) ?_
   refine l_M (.bool (decide (((c22.toNat:Nat):Int) < 48))) (Ar rfl rfl rfl b31) rfl ?_
   refine Cn (decide (((c22.toNat:Nat):Int) < 48)) (fun b32=>?_) (fun b32=>?_)
   ·have q32:=of_decide_eq_true b32
    refine Ap (Bl rfl rfl rfl b32) ?_
    refine Ap (Bl rfl rfl rfl b32) ?_
    refine Aa (Ar rfl rfl rfl b31) (Bt rfl b32 (v:=(.bool (true))) rfl) ?_
    refine Aa rfl (Bt rfl b31 (v:=(.bool (true))) rfl) ?_
    refine l_M (.bool (true)) rfl rfl ?_
    refine l_M (.int .u8 (((c22.toNat:Nat):Int))) (Ar rfl rfl rfl rfl) rfl ?_
    refine Aa (Ar rfl rfl rfl rfl) (Dg (p:=((c22.toNat:Nat):Int)) (q:=45) rfl rfl) ?_
    refine Aa rfl (Bt rfl rfl (v:=(.bool (((c22.toNat:Nat):Int) != 45))) rfl) ?_
    apply Ac
    apply k23
    refine As (t:=((c22.toNat:Nat):Int) != 45) rfl (fun b33=>?_) (fun b33=>?_)
    ·have q33:=Mb b33
     refine w_q rfl rfl fun K34 k34=>?_
     refine l_A (.bool (false)) rfl rfl ?_
     apply Ac
     apply k34
     refine Aq ?_
     refine hret _ _ _ ?_
     refine ⟨rfl,rfl,Eq.trans (b:=(.bool (false))) rfl ?_⟩
     have hbad:Alz s i = false:=by simp only [Alz,hc22,Pk,b4,b7,b9,b12,b19,b24,b31,b32,b33,Bool.true_and,Bool.false_and,Bool.and_true,Bool.and_false,Bool.true_or,Bool.false_or,Bool.or_true,Bool.or_false,Bool.not_true,Bool.not_false]
     have hall:=okAll_f (by omega) hbad
     simp only [Hi,hall,b4,b7,b9,b12,b19,b24,b31,b32,b33,Bool.true_and,Bool.false_and,Bool.and_true,Bool.and_false,Bool.true_or,Bool.false_or,Bool.or_true,Bool.or_false,Bool.not_true,Bool.not_false]
    have q33:=Jh b33
    refine Al ?_
    apply k20
    refine Ag rfl rfl ?_
    refine Aa rfl (Ah (v:=(iV ((i:Int)))) h16_3) ?_
    refine Aa rfl (Br (p:=(i:Int)) (q:=1) rfl rfl (z:=(((i + 1):Nat):Int)) (Bo (by first | rfl | omega | (push_cast; rfl)) (by omega) (by omega))) ?_
    refine l_A (iV ((((i + 1):Nat):Int))) rfl rfl ?_
    apply Ac
    refine ⟨_,?_,((i + 1)),rfl,rfl,rfl,rfl,h16_0,rfl,(by omega),(Ef p16_1 (by simp only [Alz,hc22,Pk,b4,b7,b9,b12,b19,b24,b31,b32,b33,Bool.true_and,Bool.false_and,Bool.and_true,Bool.and_false,Bool.true_or,Bool.false_or,Bool.or_true,Bool.or_false,Bool.not_true,Bool.not_false])),trivial⟩
    omega
   have q32:=of_decide_eq_false b32
   refine l_M (.int .u8 (((c22.toNat:Nat):Int))) (Ar rfl rfl rfl b32) rfl ?_
   refine Aa (Ar rfl rfl rfl b32) (Gk (p:=((c22.toNat:Nat):Int)) (q:=57) rfl rfl) ?_
   refine Aa (Ar rfl rfl rfl b31) (Bm rfl b32 (v:=(.bool (decide (((c22.toNat:Nat):Int) > 57)))) rfl) ?_
   refine Aa rfl (Bt rfl b31 (v:=(.bool (decide (((c22.toNat:Nat):Int) > 57)))) rfl) ?_
   refine l_M (.bool (decide (((c22.toNat:Nat):Int) > 57))) rfl rfl ?_
   refine Cn (decide (((c22.toNat:Nat):Int) > 57)) (fun b35=>?_) (fun b35=>?_)
   ·have q35:=of_decide_eq_true b35
    refine l_M (.int .u8 (((c22.toNat:Nat):Int))) (Ar rfl rfl rfl b35) rfl ?_
    refine Aa (Ar rfl rfl rfl b35) (Dg (p:=((c22.toNat:Nat):Int)) (q:=45) rfl rfl) ?_
    refine Aa rfl (Bt rfl b35 (v:=(.bool (((c22.toNat:Nat):Int) != 45))) rfl) ?_
    apply Ac
    apply k23
    refine As (t:=((c22.toNat:Nat):Int) != 45) rfl (fun b36=>?_) (fun b36=>?_)
    ·have q36:=Mb b36
     refine w_q rfl rfl fun K37 k37=>?_
     refine l_A (.bool (false)) rfl rfl ?_
     apply Ac
     apply k37
     refine Aq ?_
     refine hret _ _ _ ?_
     refine ⟨rfl,rfl,Eq.trans (b:=(.bool (false))) rfl ?_⟩
     have hbad:Alz s i = false:=by simp only [Alz,hc22,Pk,b4,b7,b9,b12,b19,b24,b31,b32,b35,b36,Bool.true_and,Bool.false_and,Bool.and_true,Bool.and_false,Bool.true_or,Bool.false_or,Bool.or_true,Bool.or_false,Bool.not_true,Bool.not_false]
     have hall:=okAll_f (by omega) hbad
     simp only [Hi,hall,b4,b7,b9,b12,b19,b24,b31,b32,b35,b36,Bool.true_and,Bool.false_and,Bool.and_true,Bool.and_false,Bool.true_or,Bool.false_or,Bool.or_true,Bool.or_false,Bool.not_true,Bool.not_false]
    have q36:=Jh b36
    refine Al ?_
    apply k20
    refine Ag rfl rfl ?_
    refine Aa rfl (Ah (v:=(iV ((i:Int)))) h16_3) ?_
    refine Aa rfl (Br (p:=(i:Int)) (q:=1) rfl rfl (z:=(((i + 1):Nat):Int)) (Bo (by first | rfl | omega | (push_cast; rfl)) (by omega) (by omega))) ?_
    refine l_A (iV ((((i + 1):Nat):Int))) rfl rfl ?_
    apply Ac
    refine ⟨_,?_,((i + 1)),rfl,rfl,rfl,rfl,h16_0,rfl,(by omega),(Ef p16_1 (by simp only [Alz,hc22,Pk,b4,b7,b9,b12,b19,b24,b31,b32,b35,b36,Bool.true_and,Bool.false_and,Bool.and_true,Bool.and_false,Bool.true_or,Bool.false_or,Bool.or_true,Bool.or_false,Bool.not_true,Bool.not_false])),trivial⟩
    omega
   have q35:=of_decide_eq_false b35
   refine Ap (Bl rfl rfl rfl b35) ?_
   refine Ap (Bl rfl rfl rfl b35) ?_
   refine Aa rfl (Bm rfl b35 (v:=(.bool (false))) rfl) ?_
   apply Ac
   apply k23
   refine Cg rfl rfl ?_
   refine Al ?_
   apply k20
   refine Ag rfl rfl ?_
   refine Aa rfl (Ah (v:=(iV ((i:Int)))) h16_3) ?_
   refine Aa rfl (Br (p:=(i:Int)) (q:=1) rfl rfl (z:=(((i + 1):Nat):Int)) (Bo (by first | rfl | omega | (push_cast; rfl)) (by omega) (by omega))) ?_
   refine l_A (iV ((((i + 1):Nat):Int))) rfl rfl ?_
   apply Ac
   refine ⟨_,?_,((i + 1)),rfl,rfl,rfl,rfl,h16_0,rfl,(by omega),(Ef p16_1 (by simp only [Alz,hc22,Pk,b4,b7,b9,b12,b19,b24,b31,b32,b35,Bool.true_and,Bool.false_and,Bool.and_true,Bool.and_false,Bool.true_or,Bool.false_or,Bool.or_true,Bool.or_false,Bool.not_true,Bool.not_false])),trivial⟩
   omega
  have q31:=of_decide_eq_false b31
  refine Ap (Bl rfl rfl rfl b31) ?_
  refine Ap (Bl rfl rfl rfl b31) ?_
  refine Ap (Bl rfl rfl rfl b31) ?_
  refine Ap (Jf rfl rfl rfl) ?_
  refine Ap (Jf rfl rfl rfl) ?_
  refine Ap (Bl rfl rfl rfl b31) ?_
  refine Aa rfl (Bm rfl b31 (v:=(.bool (false))) rfl) ?_
  refine l_M (.bool (false)) rfl rfl ?_
  refine Ap (Bl rfl rfl rfl rfl) ?_
  refine Ap (Bl rfl rfl rfl rfl) ?_
  refine Aa rfl (Bm rfl rfl (v:=(.bool (false))) rfl) ?_
  apply Ac
  apply k23
  refine Cg rfl rfl ?_
  refine Al ?_
  apply k20
  refine Ag rfl rfl ?_
  refine Aa rfl (Ah (v:=(iV ((i:Int)))) h16_3) ?_
  refine Aa rfl (Br (p:=(i:Int)) (q:=1) rfl rfl (z:=(((i + 1):Nat):Int)) (Bo (by first | rfl | omega | (push_cast; rfl)) (by omega) (by omega))) ?_
  refine l_A (iV ((((i + 1):Nat):Int))) rfl rfl ?_
  apply Ac
  refine ⟨_,?_,((i + 1)),rfl,rfl,rfl,rfl,h16_0,rfl,(by omega),(Ef p16_1 (by simp only [Alz,hc22,Pk,b4,b7,b9,b12,b19,b24,b31,Bool.true_and,Bool.false_and,Bool.and_true,Bool.and_false,Bool.true_or,Bool.false_or,Bool.or_true,Bool.or_false,Bool.not_true,Bool.not_false])),trivial⟩
  omega
 have q19:=of_decide_eq_false b19
 refine Bx ?_
 apply k14
 refine w_q rfl rfl fun K38 k38=>?_
 refine l_A (.bool (true)) rfl rfl ?_
 apply Ac
 apply k38
 refine Aq ?_
 refine hret _ _ _ ?_
 refine ⟨rfl,rfl,Eq.trans (b:=(.bool (true))) rfl ?_⟩
 have hall:=okAll_t.2 fun j hj=>p16_1 j (by omega)
 simp only [Hi,Pu,hall,hc8,b4,b7,b9,b12,b19,Bool.true_and,Bool.false_and,Bool.and_true,Bool.and_false,Bool.true_or,Bool.false_or,Bool.or_true,Bool.or_false,Bool.not_true,Bool.not_false]
set_option maxRecDepth 100000 in
theorem c_Find {mn:Bool} {X:Frame→List Frame→Ro→Own→Cy→Prop} {ρ:Ro} {σ:Own} {l:List ByteArray} {vl:Value} {s:ByteArray} (rl:Val ρ vl l):CallsH (CX mn X) 114 #[vl,(.string (s))] ρ σ (fun w ρ' σ'=>ρ' = ρ∧σ' = σ∧w = (iV (Ajt l s))):=by
 refine Bh (n:=19) (args:=[vl,(.string (s))]) [4] Tryd.func114 rfl rfl rfl rfl fun Q hret hnor=>?_
 refine w_q rfl rfl fun K1 k1=>?_
 refine l_A (iV (0)) rfl rfl ?_
 apply Ac
 apply k1
 refine Ai fun K2 k2=>?_
 refine w_q rfl rfl fun K3 k3=>?_
 refine l_A (iV (0)) rfl rfl ?_
 apply Ac
 apply k3
 refine Ao ?_
 refine Cc (fun mm ee dd ρ' σ'=>∃ (i:Nat),(l.length - i) = mm∧[] = dd∧ρ = ρ'∧σ = σ'∧ee 0 = vl∧ee 1 = (.string (s))∧ee 5 = (iV ((i:Int)))∧(i ≤ l.length)∧(∀ j,j < i→Xp l s j = false)∧True) (m:=_) ⟨0,rfl,rfl,rfl,rfl,rfl,rfl,rfl,(Nat.zero_le _),(fun j h=>absurd h (Nat.not_lt_zero _)),trivial⟩ ?_
 rintro m4 e4 _ _ _ ⟨i,rfl,rfl,rfl,rfl,h4_0,h4_1,h4_5,p4_0,p4_1,_⟩
 refine Ai fun K5 k5=>?_
 refine w_q rfl rfl fun K6 k6=>?_
 refine Aa rfl (Ah (v:=(iV ((i:Int)))) h4_5) ?_
 refine Aa rfl (Ah (v:=vl) h4_0) ?_
 have g7:=Val.len rl
 refine Aa rfl (Ce (el:=9) Tryd.underlying22 rfl rl) ?_
 refine Aa rfl (Da (p:=(i:Int)) (q:=((l.length:Nat):Int)) rfl rfl) ?_
 apply Ac
 apply k6
 refine As (t:=decide ((i:Int) < ((l.length:Nat):Int))) rfl (fun b8=>?_) (fun b8=>?_)
 ·have q8:=of_decide_eq_true b8
  refine Al ?_
  apply k5
  refine Ai fun K9 k9=>?_
  refine Ao ?_
  refine w_q rfl rfl fun K10 k10=>?_
  refine Aa rfl (Ah (v:=vl) h4_0) ?_
  refine Aa rfl (Ah (v:=(iV ((i:Int)))) h4_5) ?_
  obtain ⟨a12,ha12⟩:=Ed (xs:=l) (i:=i) (by omega)
  refine Ak rfl (Ci i Tryd.underlying22 ty9 rfl rl (q:=(i:Int)) rfl rfl ha12) fun v11 r11=>?_
  have g13:=At.slen r11
  refine Aa rfl (Oz ty9 rfl r11) ?_
  refine Aa rfl (Ah (v:=(.string (s))) h4_1) ?_
  refine Aa rfl (y_eqs (p:=a12) (q:=s) rfl rfl) ?_
  apply Ac
  apply k10
  refine As (t:=(a12).toList == (s).toList) rfl (fun b14=>?_) (fun b14=>?_)
  ·have q14:=Jo b14
   refine w_q rfl rfl fun K15 k15=>?_
   refine Aa rfl (Ah (v:=(iV ((i:Int)))) h4_5) ?_
   refine l_A (iV ((i:Int))) rfl rfl ?_
   apply Ac
   apply k15
   refine Aq ?_
   refine hret _ _ _ ?_
   refine ⟨rfl,rfl,Eq.trans (b:=(iV ((i:Int)))) rfl ?_⟩
   have hi:=Fg (n:=l.length) p4_1 (by omega) (show Xp l s i = true by simp only [Xp,ha12,b8,b14])
   simp only [Ajt,hi]
  have q14:=La b14
  refine Al ?_
  apply k9
  refine Ag rfl rfl ?_
  refine Aa rfl (Ah (v:=(iV ((i:Int)))) h4_5) ?_
  refine Aa rfl (Br (p:=(i:Int)) (q:=1) rfl rfl (z:=(((i + 1):Nat):Int)) (Bo (by first | rfl | omega | (push_cast; rfl)) (by omega) (by omega))) ?_
  refine l_A (iV ((((i + 1):Nat):Int))) rfl rfl ?_
  apply Ac
  refine ⟨_,?_,((i + 1)),rfl,rfl,rfl,rfl,h4_0,h4_1,rfl,(by omega),(Ef p4_1 (by simp only [Xp,ha12,b8,b14])),trivial⟩
  omega
 have q8:=of_decide_eq_false b8
 refine Bx ?_
 apply k2
 refine w_q rfl rfl fun K16 k16=>?_
 refine l_A (iV ((-1))) rfl rfl ?_
 apply Ac
 apply k16
 refine Aq ?_
 refine hret _ _ _ ?_
 refine ⟨rfl,rfl,Eq.trans (b:=(iV ((-1)))) rfl ?_⟩
 have hn:=Ep (n:=l.length) fun j hj=>p4_1 j (by omega)
 simp only [Ajt,hn]
set_option maxRecDepth 100000 in
theorem c_names {mn:Bool} {X:Frame→List Frame→Ro→Own→Cy→Prop} {ρ:Ro} {σ:Own} {l:List ByteArray} {vl:Value} {most:Int} (rl:Val ρ vl l):CallsH (CX mn X) 77 #[vl,(iV (most))] ρ σ (fun w ρ' σ'=>ρ' = ρ∧σ' = σ∧w = (iV (Dd l most))):=by
 refine Bh (n:=31) (args:=[vl,(iV (most))]) [4] Tryd.func77 rfl rfl rfl rfl fun Q hret hnor=>?_
 refine w_q rfl rfl fun K1 k1=>?_
 refine l_A (iV (0)) rfl rfl ?_
 apply Ac
 apply k1
 refine Ai fun K2 k2=>?_
 refine w_q rfl rfl fun K3 k3=>?_
 refine l_M vl rfl rfl ?_
 have g4:=Val.len rl
 refine Aa rfl (Ce (el:=9) Tryd.underlying22 rfl rl) ?_
 refine l_M (iV (most)) rfl rfl ?_
 refine Aa rfl (Gk (p:=((l.length:Nat):Int)) (q:=most) rfl rfl) ?_
 apply Ac
 apply k3
 refine As (t:=decide (((l.length:Nat):Int) > most)) rfl (fun b5=>?_) (fun b5=>?_)
 ·have q5:=of_decide_eq_true b5
  refine w_q rfl rfl fun K6 k6=>?_
  refine l_A (iV (2)) rfl rfl ?_
  apply Ac
  apply k6
  refine Aq ?_
  refine hret _ _ _ ?_
  refine ⟨rfl,rfl,Eq.trans (b:=(iV (2))) rfl ?_⟩
  rw [Dd,if_pos (by omega)]
 have q5:=of_decide_eq_false b5
 refine Al ?_
 apply k2
 refine Ai fun K7 k7=>?_
 refine w_q rfl rfl fun K8 k8=>?_
 refine l_A (iV (0)) rfl rfl ?_
 apply Ac
 apply k8
 refine Ao ?_
 refine Cc (fun mm ee dd ρ' σ'=>∃ (i:Nat),(l.length - i) = mm∧[] = dd∧ρ = ρ'∧σ = σ'∧ee 0 = vl∧ee 5 = (iV ((i:Int)))∧(i ≤ l.length)∧(∀ j,j < i→Nh l j = 0)∧True) (m:=_) ⟨0,rfl,rfl,rfl,rfl,rfl,rfl,(Nat.zero_le _),(fun j h=>absurd h (Nat.not_lt_zero _)),trivial⟩ ?_
 rintro m9 e9 _ _ _ ⟨i,rfl,rfl,rfl,rfl,h9_0,h9_5,p9_0,p9_1,_⟩
 refine Ai fun K10 k10=>?_
 refine w_q rfl rfl fun K11 k11=>?_
 refine Aa rfl (Ah (v:=(iV ((i:Int)))) h9_5) ?_
 refine Aa rfl (Ah (v:=vl) h9_0) ?_
 have g12:=Val.len rl
 refine Aa rfl (Ce (el:=9) Tryd.underlying22 rfl rl) ?_
 refine Aa rfl (Da (p:=(i:Int)) (q:=((l.length:Nat):Int)) rfl rfl) ?_
 apply Ac
 apply k11
 refine As (t:=decide ((i:Int) < ((l.length:Nat):Int))) rfl (fun b13=>?_) (fun b13=>?_)
 ·have q13:=of_decide_eq_true b13
  refine Al ?_
  apply k10
  refine Ai fun K14 k14=>?_
  refine Ao ?_
  refine Ai fun K15 k15=>?_
  refine w_q rfl rfl fun K16 k16=>?_
  refine Aa rfl (Ah (v:=vl) h9_0) ?_
  refine Aa rfl (Ah (v:=(iV ((i:Int)))) h9_5) ?_
  obtain ⟨a18,ha18⟩:=Ed (xs:=l) (i:=i) (by omega)
  refine Ak rfl (Ci i Tryd.underlying22 ty9 rfl rl (q:=(i:Int)) rfl rfl ha18) fun v17 r17=>?_
  have g19:=At.slen r17
  refine Aa rfl (Oz ty9 rfl r17) ?_
  refine Ae rfl (Bn (vs:=[(.string (a18))]) (v:=(.bool (Hi a18))) (c_Name) Tryd.func78 rfl rfl ⟨rfl,trivial⟩ ?_)
  refine Aa rfl (Ix (k:=Hi a18) rfl) ?_
  apply Ac
  apply k16
  refine As (t:=!(Hi a18)) rfl (fun b20=>?_) (fun b20=>?_)
  ·have b21:=not_eq_t b20
   refine w_q rfl rfl fun K22 k22=>?_
   refine l_A (iV (4)) rfl rfl ?_
   apply Ac
   apply k22
   refine Aq ?_
   refine hret _ _ _ ?_
   refine ⟨rfl,rfl,Eq.trans (b:=(iV (4))) rfl ?_⟩
   have hf:Nh l i = 4:=by simp only [Nh,ha18,b5,b13,b20,b21]; first | rfl | omega | (simp; done) | (simp; omega)
   rw [Dd,if_neg (by omega),Db p9_1 (by omega) hf (by omega)]
  have b23:=not_eq_f b20
  refine Al ?_
  apply k15
  refine Ai fun K24 k24=>?_
  refine Dc [0,1,2,3,4,5,6,7,8] (by kernel_rfl) rfl rfl ?_
  refine Be (i:=0) Aov rfl (by kernel_rfl) rfl Ary rfl (Ah (v:=vl) h9_0) ?_
  refine Be (i:=1) Aof rfl (by kernel_rfl) rfl Ary rfl (Ah (v:=(iV ((i:Int)))) h9_5) ?_
  refine Cd (i:=2) Apd rfl (by kernel_rfl) rfl Ary rfl (y_slice_hi i Tryd.underlying22 ty9 rfl rl (q:=(i:Int)) rfl rfl (by omega)) fun v25 r25=>?_
  refine Be (i:=3) Anf rfl (by kernel_rfl) rfl Ary rfl (Ah (v:=vl) h9_0) ?_
  refine Bg (i:=4) Aon rfl (by kernel_rfl) rfl Ary rfl (Ah (v:=(iV ((i:Int)))) h9_5) ?_
  refine Hl (i:=5) Aob rfl (by kernel_rfl) rfl Ary rfl (Ci i Tryd.underlying22 ty9 rfl rl (q:=(i:Int)) rfl rfl ha18) fun v26 r26=>?_
  have g27:=At.slen r26
  refine Bg (i:=6) Aow rfl (by kernel_rfl) rfl Ary rfl (Oz ty9 rfl r26) ?_
  refine Dj (i:=7) Anz rfl (by kernel_rfl) rfl rfl (Bn (vs:=[v25,(.string (a18))]) (v:=(iV (Ajt ((l.take i)) a18))) (c_Find r25) Tryd.func114 rfl rfl ⟨rfl,rfl,trivial⟩ ⟨Ary,?_⟩)
  refine Bg (i:=8) Anb rfl (by kernel_rfl) rfl Ary rfl (Uv (p:=Ajt ((l.take i)) a18) (q:=0) rfl rfl) ?_
  refine Ec rfl ?_
  apply k24
  refine As (t:=decide (Ajt ((l.take i)) a18 ≥ 0)) rfl (fun b28=>?_) (fun b28=>?_)
  ·have q28:=of_decide_eq_true b28
   refine w_q rfl rfl fun K29 k29=>?_
   refine l_A (iV (5)) rfl rfl ?_
   apply Ac
   apply k29
   refine Aq ?_
   refine hret _ _ _ ?_
   refine ⟨rfl,rfl,Eq.trans (b:=(iV (5))) rfl ?_⟩
   have hf:Nh l i = 5:=by simp only [Nh,ha18,b5,b13,b20,b23,b28]; first | rfl | omega | (simp; done) | (simp; omega)
   rw [Dd,if_neg (by omega),Db p9_1 (by omega) hf (by omega)]
  have q28:=of_decide_eq_false b28
  refine Al ?_
  apply k14
  refine Ag rfl rfl ?_
  refine Aa rfl (Ah (v:=(iV ((i:Int)))) h9_5) ?_
  refine Aa rfl (Br (p:=(i:Int)) (q:=1) rfl rfl (z:=(((i + 1):Nat):Int)) (Bo (by first | rfl | omega | (push_cast; rfl)) (by omega) (by omega))) ?_
  refine l_A (iV ((((i + 1):Nat):Int))) rfl rfl ?_
  apply Ac
  refine ⟨_,?_,((i + 1)),rfl,rfl,rfl,rfl,h9_0,rfl,(by omega),(Ef p9_1 (by simp only [Nh,ha18,b5,b13,b20,b23,b28]; first | rfl | omega | (simp; done) | (simp; omega))),trivial⟩
  omega
 have q13:=of_decide_eq_false b13
 refine Bx ?_
 apply k7
 refine w_q rfl rfl fun K30 k30=>?_
 refine l_A (iV (0)) rfl rfl ?_
 apply Ac
 apply k30
 refine Aq ?_
 refine hret _ _ _ ?_
 refine ⟨rfl,rfl,Eq.trans (b:=(iV (0))) rfl ?_⟩
 rw [Dd,if_neg (by omega),Fb fun j hj=>p9_1 j (by omega)]
end Go.Proofs.YtoefdnbaklajeaaDoor

namespace Go.Proofs.YtoefdnbaklajeaaDoor
open Go
set_option maxRecDepth 100000 in
theorem c_checkSpans {mn:Bool} {X:Frame→List Frame→Ro→Own→Cy→Prop} {ρ:Ro} {σ:Own} {l:List Span} {vl:Value} {many:Int} (rl:Val ρ vl l):CallsH (CX mn X) 81 #[vl,(iV (many))] ρ σ (fun w ρ' σ'=>ρ' = ρ∧σ' = σ∧w = (iV (Fl l many))):=by
 refine Bh (n:=22) (args:=[vl,(iV (many))]) [4] Tryd.func81 rfl rfl rfl rfl fun Q hret hnor=>?_
 refine w_q rfl rfl fun K1 k1=>?_
 refine l_A (iV (0)) rfl rfl ?_
 apply Ac
 apply k1
 refine Ai fun K2 k2=>?_
 refine w_q rfl rfl fun K3 k3=>?_
 refine l_M vl rfl rfl ?_
 have g4:=Val.len rl
 refine Aa rfl (Ce (el:=65) Tryd.underlying27 rfl rl) ?_
 refine l_M (iV (many)) rfl rfl ?_
 refine Aa rfl (Dg (p:=((l.length:Nat):Int)) (q:=many) rfl rfl) ?_
 apply Ac
 apply k3
 refine As (t:=((l.length:Nat):Int) != many) rfl (fun b5=>?_) (fun b5=>?_)
 ·have q5:=Mb b5
  refine w_q rfl rfl fun K6 k6=>?_
  refine l_A (iV (2)) rfl rfl ?_
  apply Ac
  apply k6
  refine Aq ?_
  refine hret _ _ _ ?_
  refine ⟨rfl,rfl,Eq.trans (b:=(iV (2))) rfl ?_⟩
  rw [Fl,if_neg (by omega)]
 have q5:=Jh b5
 refine Al ?_
 apply k2
 refine Ai fun K7 k7=>?_
 refine w_q rfl rfl fun K8 k8=>?_
 refine l_A (iV (0)) rfl rfl ?_
 apply Ac
 apply k8
 refine Ao ?_
 refine Cc (fun mm ee dd ρ' σ'=>∃ (i:Nat),(l.length - i) = mm∧[] = dd∧ρ = ρ'∧σ = σ'∧ee 0 = vl∧ee 5 = (iV ((i:Int)))∧(i ≤ l.length)∧(∀ j,j < i→Nj l j = 0)∧True) (m:=_) ⟨0,rfl,rfl,rfl,rfl,rfl,rfl,(Nat.zero_le _),(fun j h=>absurd h (Nat.not_lt_zero _)),trivial⟩ ?_
 rintro m9 e9 _ _ _ ⟨i,rfl,rfl,rfl,rfl,h9_0,h9_5,p9_0,p9_1,_⟩
 refine Ai fun K10 k10=>?_
 refine w_q rfl rfl fun K11 k11=>?_
 refine Aa rfl (Ah (v:=(iV ((i:Int)))) h9_5) ?_
 refine Aa rfl (Ah (v:=vl) h9_0) ?_
 have g12:=Val.len rl
 refine Aa rfl (Ce (el:=65) Tryd.underlying27 rfl rl) ?_
 refine Aa rfl (Da (p:=(i:Int)) (q:=((l.length:Nat):Int)) rfl rfl) ?_
 apply Ac
 apply k11
 refine As (t:=decide ((i:Int) < ((l.length:Nat):Int))) rfl (fun b13=>?_) (fun b13=>?_)
 ·have q13:=of_decide_eq_true b13
  refine Al ?_
  apply k10
  refine Ai fun K14 k14=>?_
  refine Ao ?_
  refine w_q rfl rfl fun K15 k15=>?_
  refine Aa rfl (Ah (v:=vl) h9_0) ?_
  refine Aa rfl (Ah (v:=(iV ((i:Int)))) h9_5) ?_
  obtain ⟨a17,ha17⟩:=Ed (xs:=l) (i:=i) (by omega)
  refine Ak rfl (Ci i Tryd.underlying27 Mx rfl rl (q:=(i:Int)) rfl rfl ha17) fun v16 r16=>?_
  refine Ak rfl (Ax Mx rfl r16) fun v18 r18=>?_
  refine Ae rfl (Bn (vs:=[v18,(iV (0)),(iV (1000))]) (v:=(.bool (Eg a17 0 1000))) (c_Inside r18) Tryd.func80 rfl rfl ⟨rfl,rfl,rfl,trivial⟩ ?_)
  refine Aa rfl (Ix (k:=Eg a17 0 1000) rfl) ?_
  apply Ac
  apply k15
  refine As (t:=!(Eg a17 0 1000)) rfl (fun b19=>?_) (fun b19=>?_)
  ·have b20:=not_eq_t b19
   refine w_q rfl rfl fun K21 k21=>?_
   refine l_A (iV (1)) rfl rfl ?_
   apply Ac
   apply k21
   refine Aq ?_
   refine hret _ _ _ ?_
   refine ⟨rfl,rfl,Eq.trans (b:=(iV (1))) rfl ?_⟩
   have hf:Nj l i = 1:=by simp [Nj,ha17,b5,b13,b19,b20,q5,q13]
   rw [Fl,if_pos (by omega),Db p9_1 (by omega) hf (by omega)]
  have b22:=not_eq_f b19
  refine Al ?_
  apply k14
  refine Ag rfl rfl ?_
  refine Aa rfl (Ah (v:=(iV ((i:Int)))) h9_5) ?_
  refine Aa rfl (Br (p:=(i:Int)) (q:=1) rfl rfl (z:=(((i + 1):Nat):Int)) (Bo (by first | rfl | omega | (push_cast; rfl)) (by omega) (by omega))) ?_
  refine l_A (iV ((((i + 1):Nat):Int))) rfl rfl ?_
  apply Ac
  refine ⟨_,?_,((i + 1)),rfl,rfl,rfl,rfl,h9_0,rfl,(by omega),(Ef p9_1 (by simp [Nj,ha17,b5,b13,b19,b22,q5,q13])),trivial⟩
  omega
 have q13:=of_decide_eq_false b13
 refine Bx ?_
 apply k7
 refine w_q rfl rfl fun K23 k23=>?_
 refine l_A (iV (0)) rfl rfl ?_
 apply Ac
 apply k23
 refine Aq ?_
 refine hret _ _ _ ?_
 refine ⟨rfl,rfl,Eq.trans (b:=(iV (0))) rfl ?_⟩
 rw [Fl,if_pos (by omega),Fb fun j hj=>p9_1 j (by omega)]
set_option maxRecDepth 100000 in
theorem c_CheckMarket {mn:Bool} {X:Frame→List Frame→Ro→Own→Cy→Prop} {ρ:Ro} {σ:Own} {m:Market} {vm:Value} (rm:Val ρ vm m):CallsH (CX mn X) 28 #[vm] ρ σ (fun w ρ' σ'=>ρ' = ρ∧σ' = σ∧w = (iV (Ch m))):=by
 refine Bh (n:=137) (args:=[vm]) [2] Tryd.func28 rfl rfl rfl rfl fun Q hret hnor=>?_
 refine w_q rfl rfl fun K1 k1=>?_
 refine Ae rfl (Eb (v:=vm) rfl fun k2=>?_)
 refine Bb (a:=m) rm fun ρ2 l2 r2=>?_
 replace rm:=Asa l2 rm
 refine l_A (iV (0)) rfl rfl ?_
 apply Ac
 apply k1
 refine Ai fun K3 k3=>?_
 refine w_q rfl rfl fun K4 k4=>?_
 refine Ak rfl (Ay Market.f_houses Tryd.underlying26 rfl rfl Hu (by decide) rfl r2) fun v5 r5=>?_
 refine Ak rfl (Ax Hu rfl r5) fun v6 r6=>?_
 refine Ae rfl (Bn (vs:=[v6,(iV (5))]) (v:=(iV (Dd m.houses 5))) (c_names r6) Tryd.func77 rfl rfl ⟨rfl,rfl,trivial⟩ ?_)
 refine l_A (iV (Dd m.houses 5)) rfl rfl ?_
 apply Ac
 apply k4
 refine w_q rfl rfl fun K7 k7=>?_
 refine l_M (iV (Dd m.houses 5)) rfl rfl ?_
 refine Aa rfl (Dg (p:=Dd m.houses 5) (q:=0) rfl rfl) ?_
 apply Ac
 apply k7
 refine As (t:=Dd m.houses 5 != 0) rfl (fun b8=>?_) (fun b8=>?_)
 ·have q8:=Mb b8
  refine w_q rfl rfl fun K9 k9=>?_
  refine l_M (iV (Dd m.houses 5)) rfl rfl ?_
  refine l_A (iV (Dd m.houses 5)) rfl rfl ?_
  apply Ac
  apply k9
  refine Aj (Arw l2) ?_
  refine Aq ?_
  refine hret _ _ _ ?_
  refine ⟨rfl,rfl,Eq.trans (b:=(iV (Dd m.houses 5))) rfl ?_⟩
  rw [Ch,Rx q8]
 have q8:=Jh b8
 refine Al ?_
 apply k3
 refine Ai fun K10 k10=>?_
 refine w_q rfl rfl fun K11 k11=>?_
 refine Ak rfl (Ay Market.f_marks Tryd.underlying26 rfl rfl Hu (by decide) rfl r2) fun v12 r12=>?_
 refine Ak rfl (Ax Hu rfl r12) fun v13 r13=>?_
 refine Ae rfl (Bn (vs:=[v13,(iV (4))]) (v:=(iV (Dd m.marks 4))) (c_names r13) Tryd.func77 rfl rfl ⟨rfl,rfl,trivial⟩ ?_)
 refine l_A (iV (Dd m.marks 4)) rfl rfl ?_
 apply Ac
 apply k11
 refine w_q rfl rfl fun K14 k14=>?_
 refine l_M (iV (Dd m.marks 4)) rfl rfl ?_
 refine Aa rfl (Dg (p:=Dd m.marks 4) (q:=0) rfl rfl) ?_
 apply Ac
 apply k14
 refine As (t:=Dd m.marks 4 != 0) rfl (fun b15=>?_) (fun b15=>?_)
 ·have q15:=Mb b15
  refine w_q rfl rfl fun K16 k16=>?_
  refine l_M (iV (Dd m.marks 4)) rfl rfl ?_
  refine l_A (iV (Dd m.marks 4)) rfl rfl ?_
  apply Ac
  apply k16
  refine Aj (Arw l2) ?_
  refine Aq ?_
  refine hret _ _ _ ?_
  refine ⟨rfl,rfl,Eq.trans (b:=(iV (Dd m.marks 4))) rfl ?_⟩
  rw [Ch,Gt q8,Rx q15]
 have q15:=Jh b15
 refine Al ?_
 apply k10
 refine Ai fun K17 k17=>?_
 refine w_q rfl rfl fun K18 k18=>?_
 refine Ak rfl (Ay Market.f_fields Tryd.underlying26 rfl rfl Se (by decide) rfl r2) fun v19 r19=>?_
 refine Ak rfl (Ax Se rfl r19) fun v20 r20=>?_
 have g21:=Val.len r20
 refine Aa rfl (Ce (el:=67) Tryd.underlying23 rfl r20) ?_
 refine Aa rfl (Gk (p:=((m.fields.length:Nat):Int)) (q:=6) rfl rfl) ?_
 apply Ac
 apply k18
 refine As (t:=decide (((m.fields.length:Nat):Int) > 6)) rfl (fun b22=>?_) (fun b22=>?_)
 ·have q22:=of_decide_eq_true b22
  refine w_q rfl rfl fun K23 k23=>?_
  refine l_A (iV (2)) rfl rfl ?_
  apply Ac
  apply k23
  refine Aj (Arw l2) ?_
  refine Aq ?_
  refine hret _ _ _ ?_
  refine ⟨rfl,rfl,Eq.trans (b:=(iV (2))) rfl ?_⟩
  rw [Ch,Gt q8,Gt q15,Ew,if_pos q22,Rx (by omega)]
 have q22:=of_decide_eq_false b22
 refine Al ?_
 apply k17
 refine Ai fun K24 k24=>?_
 refine w_q rfl rfl fun K25 k25=>?_
 refine l_A (iV (0)) rfl rfl ?_
 apply Ac
 apply k25
 refine Ao ?_
 refine Cc (fun mm ee dd ρ' σ'=>∃ (i:Nat),(m.fields.length - i) = mm∧[] = dd∧ρ2 = ρ'∧σ = σ'∧ee 1 = (.pointer (some ⟨k2,0,none⟩))∧ee 5 = (iV ((i:Int)))∧(i ≤ m.fields.length)∧(∀ j,j < i→fieldAt m j = 0)∧True) (m:=_) ⟨0,rfl,rfl,rfl,rfl,rfl,rfl,(Nat.zero_le _),(fun j h=>absurd h (Nat.not_lt_zero _)),trivial⟩ ?_
 rintro m26 e26 _ _ _ ⟨i,rfl,rfl,rfl,rfl,h26_1,h26_5,p26_0,p26_1,_⟩
 refine Ai fun K27 k27=>?_
 refine w_q rfl rfl fun K28 k28=>?_
 refine Aa rfl (Ah (v:=(iV ((i:Int)))) h26_5) ?_
 refine Ak rfl (Ay Market.f_fields Tryd.underlying26 rfl rfl Se (by decide) h26_1 r2) fun v29 r29=>?_
 refine Ak rfl (Ax Se rfl r29) fun v30 r30=>?_
 have g31:=Val.len r30
 refine Aa rfl (Ce (el:=67) Tryd.underlying23 rfl r30) ?_
 refine Aa rfl (Da (p:=(i:Int)) (q:=((m.fields.length:Nat):Int)) rfl rfl) ?_
 apply Ac
 apply k28
 refine As (t:=decide ((i:Int) < ((m.fields.length:Nat):Int))) rfl (fun b32=>?_) (fun b32=>?_)
 ·have q32:=of_decide_eq_true b32
  refine Al ?_
  apply k27
  refine Ai fun K33 k33=>?_
  refine Ao ?_
  refine w_q rfl rfl fun K34 k34=>?_
  refine Ak rfl (Ay Market.f_fields Tryd.underlying26 rfl rfl Se (by decide) h26_1 r2) fun v35 r35=>?_
  refine Ak rfl (Ax Se rfl r35) fun v36 r36=>?_
  refine Aa rfl (Ah (v:=(iV ((i:Int)))) h26_5) ?_
  obtain ⟨a38,ha38⟩:=Ed (xs:=m.fields) (i:=i) (by omega)
  refine Ak rfl (Ci i Tryd.underlying23 Ln rfl r36 (q:=(i:Int)) rfl rfl ha38) fun v37 r37=>?_
  refine Ak rfl (Ax Ln rfl r37) fun v39 r39=>?_
  refine Ae rfl (Ct Xg fun k40=>?_)
  refine Cx rfl (Du (v:=v39) (a:=a38) (c:=Zu) Ln rfl rfl r39 rfl ?_)
  refine Bb (a:=a38) r39 fun ρ41 l41 r41=>?_
  replace r2:=Arv l41 r2
  replace r35:=Arv l41 r35
  replace r36:=Asa l41 r36
  replace r37:=Arv l41 r37
  replace r39:=Asa l41 r39
  apply Ac
  apply k34
  refine Ai fun K42 k42=>?_
  refine w_q rfl rfl fun K43 k43=>?_
  refine Ak rfl (Ay FField.f_name Tryd.underlying67 rfl rfl ty9 (by decide) rfl r41) fun v44 r44=>?_
  have g45:=At.slen r44
  refine Aa rfl (Oz ty9 rfl r44) ?_
  refine Ae rfl (Bn (vs:=[(.string (a38.name))]) (v:=(.bool (Hi a38.name))) (c_Name) Tryd.func78 rfl rfl ⟨rfl,trivial⟩ ?_)
  refine Aa rfl (Ix (k:=Hi a38.name) rfl) ?_
  apply Ac
  apply k43
  refine As (t:=!(Hi a38.name)) rfl (fun b46=>?_) (fun b46=>?_)
  ·have b47:=not_eq_t b46
   refine w_q rfl rfl fun K48 k48=>?_
   refine l_A (iV (4)) rfl rfl ?_
   apply Ac
   apply k48
   refine Aj (Arw (Arz l2 l41)) ?_
   refine Aq ?_
   refine hret _ _ _ ?_
   refine ⟨rfl,rfl,Eq.trans (b:=(iV (4))) rfl ?_⟩
   have hf:fieldAt m i = 4:=by simp [fieldAt,ha38,b8,b15,b22,b32,b46,b47,q8,q15,q22,q32]
   have hF:Ew m = 4:=by rw [Ew,if_neg (by omega),Db p26_1 (by omega) hf (by omega)]
   rw [Ch,Gt q8,Gt q15,hF,Rx (by omega)]
  have b49:=not_eq_f b46
  refine Al ?_
  apply k42
  refine Ai fun K50 k50=>?_
  refine w_q rfl rfl fun K51 k51=>?_
  refine l_A (iV (0)) rfl rfl ?_
  apply Ac
  apply k51
  refine Ao ?_
  refine Cc (fun mm ee dd ρ' σ'=>∃ (k:Nat),(i - k) = mm∧[] = dd∧ρ41 = ρ'∧σ = σ'∧ee 1 = (.pointer (some ⟨k2,0,none⟩))∧ee 5 = (iV ((i:Int)))∧ee 6 = (.pointer (some ⟨k40,0,none⟩))∧ee 7 = (iV ((k:Int)))∧(k ≤ i)∧(∀ j,j < k→Mq m a38.name j = false)∧True) (m:=_) ⟨0,rfl,rfl,rfl,rfl,h26_1,h26_5,rfl,rfl,(Nat.zero_le _),(fun j h=>absurd h (Nat.not_lt_zero _)),trivial⟩ ?_
  rintro m52 e52 _ _ _ ⟨k,rfl,rfl,rfl,rfl,h52_1,h52_5,h52_6,h52_7,p52_0,p52_1,_⟩
  refine Ai fun K53 k53=>?_
  refine w_q rfl rfl fun K54 k54=>?_
  refine Aa rfl (Ah (v:=(iV ((k:Int)))) h52_7) ?_
  refine Aa rfl (Ah (v:=(iV ((i:Int)))) h52_5) ?_
  refine Aa rfl (Da (p:=(k:Int)) (q:=(i:Int)) rfl rfl) ?_
  apply Ac
  apply k54
  refine As (t:=decide ((k:Int) < (i:Int))) rfl (fun b55=>?_) (fun b55=>?_)
  ·have q55:=of_decide_eq_true b55
   refine Al ?_
   apply k53
   refine Ai fun K56 k56=>?_
   refine Ao ?_
   refine Ai fun K57 k57=>?_
   refine Dc [0,1,2,3,4,5,6,7,8] (by kernel_rfl) rfl rfl ?_
   refine Cd (i:=0) Aov rfl (by kernel_rfl) rfl Ary rfl (Ay Market.f_fields Tryd.underlying26 rfl rfl Se (by decide) h52_1 r2) fun v58 r58=>?_
   refine Cd (i:=1) Aof rfl (by kernel_rfl) rfl Ary rfl (Ax Se rfl r58) fun v59 r59=>?_
   refine Be (i:=2) Apd rfl (by kernel_rfl) rfl Ary rfl (Ah (v:=(iV ((k:Int)))) h52_7) ?_
   obtain ⟨a61,ha61⟩:=Ed (xs:=m.fields) (i:=k) (by omega)
   refine Cd (i:=3) Anf rfl (by kernel_rfl) rfl Ary rfl (Ci k Tryd.underlying23 Ln rfl r59 (q:=(k:Int)) rfl rfl ha61) fun v60 r60=>?_
   refine Cd (i:=4) Aon rfl (by kernel_rfl) rfl Ary rfl (Ay FField.f_name Tryd.underlying67 rfl rfl ty9 (by decide) rfl r60) fun v62 r62=>?_
   have g63:=At.slen r62
   refine Be (i:=5) Aob rfl (by kernel_rfl) rfl Ary rfl (Oz ty9 rfl r62) ?_
   refine Hl (i:=6) Aow rfl (by kernel_rfl) rfl Ary rfl (Ay FField.f_name Tryd.underlying67 rfl rfl ty9 (by decide) h52_6 r41) fun v64 r64=>?_
   have g65:=At.slen r64
   refine Bg (i:=7) Anz rfl (by kernel_rfl) rfl Ary rfl (Oz ty9 rfl r64) ?_
   refine Bg (i:=8) Anb rfl (by kernel_rfl) rfl Ary rfl (y_eqs (p:=a61.name) (q:=a38.name) rfl rfl) ?_
   refine Ec rfl ?_
   apply k57
   refine As (t:=(a61.name).toList == (a38.name).toList) rfl (fun b66=>?_) (fun b66=>?_)
   ·have q66:=Jo b66
    refine w_q rfl rfl fun K67 k67=>?_
    refine l_A (iV (5)) rfl rfl ?_
    apply Ac
    apply k67
    refine Aj (Arw (Arz l2 l41)) ?_
    refine Aq ?_
    refine hret _ _ _ ?_
    refine ⟨rfl,rfl,Eq.trans (b:=(iV (5))) rfl ?_⟩
    have hi:Cl i (Mq m a38.name) = some k:=Fg p52_1 (by omega) (by simp [Mq,ha61,b8,b15,b22,b32,b46,b49,b55,b66,q8,q15,q22,q32,q55,q66])
    have hf:fieldAt m i = 5:=by simp [fieldAt,ha38,hi,b8,b15,b22,b32,b46,b49,b55,b66,q8,q15,q22,q32,q55,q66]
    have hF:Ew m = 5:=by rw [Ew,if_neg (by omega),Db p26_1 (by omega) hf (by omega)]
    rw [Ch,Gt q8,Gt q15,hF,Rx (by omega)]
   have q66:=La b66
   refine Al ?_
   apply k56
   refine Ag rfl rfl ?_
   refine Aa rfl (Ah (v:=(iV ((k:Int)))) h52_7) ?_
   refine Aa rfl (Br (p:=(k:Int)) (q:=1) rfl rfl (z:=(((k + 1):Nat):Int)) (Bo (by first | rfl | omega | (push_cast; rfl)) (by omega) (by omega))) ?_
   refine l_A (iV ((((k + 1):Nat):Int))) rfl rfl ?_
   apply Ac
   refine ⟨_,?_,((k + 1)),rfl,rfl,rfl,rfl,h52_1,h52_5,h52_6,rfl,(by omega),(Ef p52_1 (by simp [Mq,ha61,b8,b15,b22,b32,b46,b49,b55,b66,q8,q15,q22,q32,q55,q66])),trivial⟩
   omega
  have q55:=of_decide_eq_false b55
  refine Bx ?_
  apply k50
  refine Ai fun K68 k68=>?_
  refine w_q rfl rfl fun K69 k69=>?_
  refine Ak rfl (Ay FField.f_house Tryd.underlying67 rfl rfl ty3 (by decide) h52_6 r41) fun v70 r70=>?_
  have ⟨g71a,g71b⟩:=At.rng r70
  refine Aa rfl (Bc ty3 rfl r70) ?_
  refine Ak rfl (Ay Market.f_houses Tryd.underlying26 rfl rfl Hu (by decide) h52_1 r2) fun v72 r72=>?_
  refine Ak rfl (Ax Hu rfl r72) fun v73 r73=>?_
  have g74:=Val.len r73
  refine Aa rfl (Ce (el:=9) Tryd.underlying22 rfl r73) ?_
  refine Aa rfl (Oq (p:=((m.houses.length:Nat):Int)) (q:=1) rfl rfl (z:=(((m.houses.length:Nat):Int) - 1)) (Bo (by first | rfl | omega | (push_cast; rfl)) (by omega) (by omega))) ?_
  refine Ae rfl (Bn (vs:=[(iV (a38.house)),(iV (0)),(iV ((((m.houses.length:Nat):Int) - 1)))]) (v:=(.bool (inR a38.house 0 ((((m.houses.length:Nat):Int) - 1))))) (c_In) Tryd.func79 rfl rfl ⟨rfl,rfl,rfl,trivial⟩ ?_)
  refine Aa rfl (Ix (k:=inR a38.house 0 ((((m.houses.length:Nat):Int) - 1))) rfl) ?_
  apply Ac
  apply k69
  refine As (t:=!(inR a38.house 0 ((((m.houses.length:Nat):Int) - 1)))) rfl (fun b75=>?_) (fun b75=>?_)
  ·have b76:=not_eq_t b75
   have q76:=Ui.1 b76
   refine w_q rfl rfl fun K77 k77=>?_
   refine l_A (iV (6)) rfl rfl ?_
   apply Ac
   apply k77
   refine Aj (Arw (Arz l2 l41)) ?_
   refine Aq ?_
   refine hret _ _ _ ?_
   refine ⟨rfl,rfl,Eq.trans (b:=(iV (6))) rfl ?_⟩
   have hi:Cl i (Mq m a38.name) = none:=Ep fun j hj=>p52_1 j (by omega)
   have hf:fieldAt m i = 6:=by simp [fieldAt,ha38,hi,b8,b15,b22,b32,b46,b49,b55,b75,b76,q8,q15,q22,q32,q55,q76]
   have hF:Ew m = 6:=by rw [Ew,if_neg (by omega),Db p26_1 (by omega) hf (by omega)]
   rw [Ch,Gt q8,Gt q15,hF,Rx (by omega)]
  have b78:=not_eq_f b75
  have q78:=Ge.1 b78
  refine Al ?_
  apply k68
  refine Ai fun K79 k79=>?_
  refine w_q rfl rfl fun K80 k80=>?_
  refine Ak rfl (Ay FField.f_grows Tryd.underlying67 rfl rfl Mx (by decide) h52_6 r41) fun v81 r81=>?_
  refine Ak rfl (Ax Mx rfl r81) fun v82 r82=>?_
  refine Ae rfl (Bn (vs:=[v82,(iV (0)),(iV (1000000))]) (v:=(.bool (Eg a38.grows 0 1000000))) (c_Inside r82) Tryd.func80 rfl rfl ⟨rfl,rfl,rfl,trivial⟩ ?_)
  refine Aa rfl (Ix (k:=Eg a38.grows 0 1000000) rfl) ?_
  apply Ac
  apply k80
  refine As (t:=!(Eg a38.grows 0 1000000)) rfl (fun b83=>?_) (fun b83=>?_)
  ·have b84:=not_eq_t b83
   refine w_q rfl rfl fun K85 k85=>?_
   refine l_A (iV (1)) rfl rfl ?_
   apply Ac
   apply k85
   refine Aj (Arw (Arz l2 l41)) ?_
   refine Aq ?_
   refine hret _ _ _ ?_
   refine ⟨rfl,rfl,Eq.trans (b:=(iV (1))) rfl ?_⟩
   have hi:Cl i (Mq m a38.name) = none:=Ep fun j hj=>p52_1 j (by omega)
   have hf:fieldAt m i = 1:=by simp [fieldAt,ha38,hi,b8,b15,b22,b32,b46,b49,b55,b75,b78,b83,b84,q8,q15,q22,q32,q55,q78]
   have hF:Ew m = 1:=by rw [Ew,if_neg (by omega),Db p26_1 (by omega) hf (by omega)]
   rw [Ch,Gt q8,Gt q15,hF,Rx (by omega)]
  have b86:=not_eq_f b83
  refine Al ?_
  apply k79
  refine w_q rfl rfl fun K87 k87=>?_
  refine Ak rfl (Ay FField.f_marks Tryd.underlying67 rfl rfl Ty (by decide) h52_6 r41) fun v88 r88=>?_
  refine Ak rfl (Ax Ty rfl r88) fun v89 r89=>?_
  refine Ak rfl (Ay Market.f_marks Tryd.underlying26 rfl rfl Hu (by decide) h52_1 r2) fun v90 r90=>?_
  refine Ak rfl (Ax Hu rfl r90) fun v91 r91=>?_
  have g92:=Val.len r91
  refine Aa rfl (Ce (el:=9) Tryd.underlying22 rfl r91) ?_
  refine Ae rfl (Bn (vs:=[v89,(iV (((m.marks.length:Nat):Int)))]) (v:=(iV (Fl a38.marks (((m.marks.length:Nat):Int))))) (c_checkSpans r89) Tryd.func81 rfl rfl ⟨rfl,rfl,trivial⟩ ?_)
  refine l_A (iV (Fl a38.marks (((m.marks.length:Nat):Int)))) rfl rfl ?_
  apply Ac
  apply k87
  refine w_q rfl rfl fun K93 k93=>?_
  refine l_M (iV (Fl a38.marks (((m.marks.length:Nat):Int)))) rfl rfl ?_
  refine Aa rfl (Dg (p:=Fl a38.marks (((m.marks.length:Nat):Int))) (q:=0) rfl rfl) ?_
  apply Ac
  apply k93
  refine As (t:=Fl a38.marks (((m.marks.length:Nat):Int)) != 0) rfl (fun b94=>?_) (fun b94=>?_)
  ·have q94:=Mb b94
   refine w_q rfl rfl fun K95 k95=>?_
   refine l_M (iV (Fl a38.marks (((m.marks.length:Nat):Int)))) rfl rfl ?_
   refine l_A (iV (Fl a38.marks (((m.marks.length:Nat):Int)))) rfl rfl ?_
   apply Ac
   apply k95
   refine Aj (Arw (Arz l2 l41)) ?_
   refine Aq ?_
   refine hret _ _ _ ?_
   refine ⟨rfl,rfl,Eq.trans (b:=(iV (Fl a38.marks (((m.marks.length:Nat):Int))))) rfl ?_⟩
   have hi:Cl i (Mq m a38.name) = none:=Ep fun j hj=>p52_1 j (by omega)
   have hf:fieldAt m i = Fl a38.marks (((m.marks.length:Nat):Int)):=by simp [fieldAt,ha38,hi,b8,b15,b22,b32,b46,b49,b55,b75,b78,b83,b86,b94,q8,q15,q22,q32,q55,q78,q94]
   have hF:Ew m = Fl a38.marks (((m.marks.length:Nat):Int)):=by rw [Ew,if_neg (by omega),Db p26_1 (by omega) hf q94]
   rw [Ch,Gt q8,Gt q15,hF,Rx q94]
  have q94:=Jh b94
  refine Al ?_
  apply k33
  refine Ag rfl rfl ?_
  refine Aa rfl (Ah (v:=(iV ((i:Int)))) h52_5) ?_
  refine Aa rfl (Br (p:=(i:Int)) (q:=1) rfl rfl (z:=(((i + 1):Nat):Int)) (Bo (by first | rfl | omega | (push_cast; rfl)) (by omega) (by omega))) ?_
  refine l_A (iV ((((i + 1):Nat):Int))) rfl rfl ?_
  refine Bj (Arw l41) ?_
  apply Ac
  refine ⟨_,?_,((i + 1)),rfl,rfl,rfl,rfl,h52_1,rfl,(by omega),(Ef p26_1 (by
  have hi:Cl i (Mq m a38.name) = none:=Ep fun j hj=>p52_1 j (by omega)
  simp [fieldAt,ha38,hi,b8,b15,b22,b32,b46,b49,b55,b75,b78,b83,b86,b94,q8,q15,q22,q32,q55,q78,q94])),trivial⟩
  omega
 have q32:=of_decide_eq_false b32
 refine Bx ?_
 apply k24
 refine Ai fun K96 k96=>?_
 refine w_q rfl rfl fun K97 k97=>?_
 refine Ak rfl (Ay Market.f_sales Tryd.underlying26 rfl rfl Pq (by decide) h26_1 r2) fun v98 r98=>?_
 refine Ak rfl (Ax Pq rfl r98) fun v99 r99=>?_
 have g100:=Val.len r99
 refine Aa rfl (Ce (el:=59) Tryd.underlying24 rfl r99) ?_
 refine Aa rfl (Gk (p:=((m.sales.length:Nat):Int)) (q:=8) rfl rfl) ?_
 apply Ac
 apply k97
 refine As (t:=decide (((m.sales.length:Nat):Int) > 8)) rfl (fun b101=>?_) (fun b101=>?_)
 ·have q101:=of_decide_eq_true b101
  refine w_q rfl rfl fun K102 k102=>?_
  refine l_A (iV (2)) rfl rfl ?_
  apply Ac
  apply k102
  refine Aj (Arw l2) ?_
  refine Aq ?_
  refine hret _ _ _ ?_
  refine ⟨rfl,rfl,Eq.trans (b:=(iV (2))) rfl ?_⟩
  have hF:Ew m = 0:=by rw [Ew,if_neg (by omega),Fb fun j hj=>p26_1 j (by omega)]
  rw [Ch,Gt q8,Gt q15,Gt hF,Jb,if_pos (by omega)]
 have q101:=of_decide_eq_false b101
 refine Al ?_
 apply k96
 refine Ai fun K103 k103=>?_
 refine w_q rfl rfl fun K104 k104=>?_
 refine l_A (iV (0)) rfl rfl ?_
 apply Ac
 apply k104
 refine Ao ?_
 refine Cc (fun mm ee dd ρ' σ'=>∃ (s:Nat),(m.sales.length - s) = mm∧[] = dd∧ρ2 = ρ'∧σ = σ'∧ee 1 = (.pointer (some ⟨k2,0,none⟩))∧ee 9 = (iV ((s:Int)))∧(s ≤ m.sales.length)∧(∀ j,j < s→Iz m j = 0)∧True) (m:=_) ⟨0,rfl,rfl,rfl,rfl,h26_1,rfl,(Nat.zero_le _),(fun j h=>absurd h (Nat.not_lt_zero _)),trivial⟩ ?_
 rintro m105 e105 _ _ _ ⟨s,rfl,rfl,rfl,rfl,h105_1,h105_9,p105_0,p105_1,_⟩
 refine Ai fun K106 k106=>?_
 refine w_q rfl rfl fun K107 k107=>?_
 refine Aa rfl (Ah (v:=(iV ((s:Int)))) h105_9) ?_
 refine Ak rfl (Ay Market.f_sales Tryd.underlying26 rfl rfl Pq (by decide) h105_1 r2) fun v108 r108=>?_
 refine Ak rfl (Ax Pq rfl r108) fun v109 r109=>?_
 have g110:=Val.len r109
 refine Aa rfl (Ce (el:=59) Tryd.underlying24 rfl r109) ?_
 refine Aa rfl (Da (p:=(s:Int)) (q:=((m.sales.length:Nat):Int)) rfl rfl) ?_
 apply Ac
 apply k107
 refine As (t:=decide ((s:Int) < ((m.sales.length:Nat):Int))) rfl (fun b111=>?_) (fun b111=>?_)
 ·have q111:=of_decide_eq_true b111
  refine Al ?_
  apply k106
  refine Ai fun K112 k112=>?_
  refine Ao ?_
  refine w_q rfl rfl fun K113 k113=>?_
  refine Ak rfl (Ay Market.f_sales Tryd.underlying26 rfl rfl Pq (by decide) h105_1 r2) fun v114 r114=>?_
  refine Ak rfl (Ax Pq rfl r114) fun v115 r115=>?_
  refine Aa rfl (Ah (v:=(iV ((s:Int)))) h105_9) ?_
  obtain ⟨a117,ha117⟩:=Ed (xs:=m.sales) (i:=s) (by omega)
  refine Ak rfl (Ci s Tryd.underlying24 Su rfl r115 (q:=(s:Int)) rfl rfl ha117) fun v116 r116=>?_
  refine Ak rfl (Ax Su rfl r116) fun v118 r118=>?_
  refine Ae rfl (Ct Aeo fun k119=>?_)
  refine Cx rfl (Du (v:=v118) (a:=a117) (c:=Ags) Su rfl rfl r118 rfl ?_)
  refine Bb (a:=a117) r118 fun ρ120 l120 r120=>?_
  replace r2:=Arv l120 r2
  replace r114:=Arv l120 r114
  replace r115:=Asa l120 r115
  replace r116:=Arv l120 r116
  replace r118:=Asa l120 r118
  apply Ac
  apply k113
  refine Ai fun K121 k121=>?_
  refine w_q rfl rfl fun K122 k122=>?_
  refine Ak rfl (Ay Sale.f_grams Tryd.underlying59 rfl rfl ty3 (by decide) rfl r120) fun v123 r123=>?_
  have ⟨g124a,g124b⟩:=At.rng r123
  refine Aa rfl (Bc ty3 rfl r123) ?_
  refine Ae rfl (Bn (vs:=[(iV (a117.grams)),(iV (0)),(iV (1000000))]) (v:=(.bool (inR a117.grams 0 1000000))) (c_In) Tryd.func79 rfl rfl ⟨rfl,rfl,rfl,trivial⟩ ?_)
  refine Aa rfl (Ix (k:=inR a117.grams 0 1000000) rfl) ?_
  apply Ac
  apply k122
  refine As (t:=!(inR a117.grams 0 1000000)) rfl (fun b125=>?_) (fun b125=>?_)
  ·have b126:=not_eq_t b125
   have q126:=Ui.1 b126
   refine w_q rfl rfl fun K127 k127=>?_
   refine l_A (iV (1)) rfl rfl ?_
   apply Ac
   apply k127
   refine Aj (Arw (Arz l2 l120)) ?_
   refine Aq ?_
   refine hret _ _ _ ?_
   refine ⟨rfl,rfl,Eq.trans (b:=(iV (1))) rfl ?_⟩
   have hF:Ew m = 0:=by rw [Ew,if_neg (by omega),Fb fun j hj=>p26_1 j (by omega)]
   have hf:Iz m s = 1:=by simp [Iz,ha117,b8,b15,b22,b32,b101,b111,b125,b126,q8,q15,q22,q32,q101,q111,q126]
   rw [Ch,Gt q8,Gt q15,Gt hF,Jb,if_neg (by omega),Db p105_1 (by omega) hf (by omega)]
  have b128:=not_eq_f b125
  have q128:=Ge.1 b128
  refine Al ?_
  apply k121
  refine Ai fun K129 k129=>?_
  refine w_q rfl rfl fun K130 k130=>?_
  refine Ak rfl (Ay Sale.f_sellers Tryd.underlying59 rfl rfl Vg (by decide) rfl r120) fun v131 r131=>?_
  refine Ak rfl (Ax Vg rfl r131) fun v132 r132=>?_
  have g133:=Val.len r132
  refine Aa rfl (Ce (el:=3) Tryd.underlying30 rfl r132) ?_
  refine Aa rfl (Ek (p:=((a117.sellers.length:Nat):Int)) (q:=0) rfl rfl) ?_
  apply Ac
  apply k130
  refine As (t:=((a117.sellers.length:Nat):Int) == 0) rfl (fun b134=>?_) (fun b134=>?_)
  ·have q134:=Jo b134
   refine w_q rfl rfl fun K135 k135=>?_
   refine l_A (iV (2)) rfl rfl ?_
   apply Ac
   apply k135
   refine Aj (Arw (Arz l2 l120)) ?_
   refine Aq ?_
   refine hret _ _ _ ?_
   refine ⟨rfl,rfl,Eq.trans (b:=(iV (2))) rfl ?_⟩
   have hF:Ew m = 0:=by rw [Ew,if_neg (by omega),Fb fun j hj=>p26_1 j (by omega)]
   have hf:Iz m s = 2:=by simp [Iz,ha117,b8,b15,b22,b32,b101,b111,b125,b128,b134,q8,q15,q22,q32,q101,q111,q128,q134]
   rw [Ch,Gt q8,Gt q15,Gt hF,Jb,if_neg (by omega),Db p105_1 (by omega) hf (by omega)]
  have q134:=La b134
  refine Al ?_
  apply k129
  refine w_q rfl rfl fun K136 k136=>?_
  refine l_A (iV (0)) rfl rfl ?_
  apply Ac
  apply k136
  refine Ao ?_
  refine Cc (fun mm ee dd ρ' σ'=>∃ (q:Nat),(a117.sellers.length - q) = mm∧[] = dd∧ρ120 = ρ'∧σ = σ'∧ee 1 = (.pointer (some ⟨k2,0,none⟩))∧ee 9 = (iV ((s:Int)))∧ee 10 = (.pointer (some ⟨k119,0,none⟩))∧ee 11 = (iV ((q:Int)))∧(q ≤ a117.sellers.length)∧(∀ j,j < q→Gu m a117 j = 0)∧True) (m:=_) ⟨0,rfl,rfl,rfl,rfl,h105_1,h105_9,rfl,rfl,(Nat.zero_le _),(fun j h=>absurd h (Nat.not_lt_zero _)),trivial⟩ ?_
  rintro m137 e137 _ _ _ ⟨q,rfl,rfl,rfl,rfl,h137_1,h137_9,h137_10,h137_11,p137_0,p137_1,_⟩
  refine Ai fun K138 k138=>?_
  refine w_q rfl rfl fun K139 k139=>?_
  refine Aa rfl (Ah (v:=(iV ((q:Int)))) h137_11) ?_
  refine Ak rfl (Ay Sale.f_sellers Tryd.underlying59 rfl rfl Vg (by decide) h137_10 r120) fun v140 r140=>?_
  refine Ak rfl (Ax Vg rfl r140) fun v141 r141=>?_
  have g142:=Val.len r141
  refine Aa rfl (Ce (el:=3) Tryd.underlying30 rfl r141) ?_
  refine Aa rfl (Da (p:=(q:Int)) (q:=((a117.sellers.length:Nat):Int)) rfl rfl) ?_
  apply Ac
  apply k139
  refine As (t:=decide ((q:Int) < ((a117.sellers.length:Nat):Int))) rfl (fun b143=>?_) (fun b143=>?_)
  ·have q143:=of_decide_eq_true b143
   refine Al ?_
   apply k138
   refine Ai fun K144 k144=>?_
   refine Ao ?_
   refine Ai fun K145 k145=>?_
   refine Ai fun K146 k146=>?_
   refine Dc [0,1,2,3,4,5,6,7,8,9,10] (by kernel_rfl) rfl rfl ?_
   refine Cd (i:=0) [o1,o0,o0,o0,o0,o0,o0,o0,o0,o0,o0] rfl (by kernel_rfl) rfl Ary rfl (Ay Sale.f_sellers Tryd.underlying59 rfl rfl Vg (by decide) h137_10 r120) fun v147 r147=>?_
   refine Cd (i:=1) [o1,o1,o0,o0,o0,o0,o0,o0,o0,o0,o0] rfl (by kernel_rfl) rfl Ary rfl (Ax Vg rfl r147) fun v148 r148=>?_
   refine Be (i:=2) [o1,o1,o1,o0,o0,o0,o0,o0,o0,o0,o0] rfl (by kernel_rfl) rfl Ary rfl (Ah (v:=(iV ((q:Int)))) h137_11) ?_
   obtain ⟨a150,ha150⟩:=Ed (xs:=a117.sellers) (i:=q) (by omega)
   refine Cd (i:=3) [o1,o1,o1,o1,o0,o0,o0,o0,o0,o0,o0] rfl (by kernel_rfl) rfl Ary rfl (Ci q Tryd.underlying30 ty3 rfl r148 (q:=(q:Int)) rfl rfl ha150) fun v149 r149=>?_
   have ⟨g151a,g151b⟩:=At.rng r149
   refine Be (i:=4) [o1,o1,o1,o1,o1,o0,o0,o0,o0,o0,o0] rfl (by kernel_rfl) rfl Ary rfl (Bc ty3 rfl r149) ?_
   refine Hl (i:=5) Apb rfl (by kernel_rfl) rfl Ary rfl (Ay Market.f_houses Tryd.underlying26 rfl rfl Hu (by decide) h137_1 r2) fun v152 r152=>?_
   refine Hl (i:=6) zZ2 rfl (by kernel_rfl) rfl Ary rfl (Ax Hu rfl r152) fun v153 r153=>?_
   have g154:=Val.len r153
   refine Bg (i:=7) zZ3 rfl (by kernel_rfl) rfl Ary rfl (Ce (el:=9) Tryd.underlying22 rfl r153) ?_
   refine Bg (i:=8) zZ4 rfl (by kernel_rfl) rfl Ary rfl (Oq (p:=((m.houses.length:Nat):Int)) (q:=1) rfl rfl (z:=(((m.houses.length:Nat):Int) - 1)) (Bo (by first | rfl | omega | (push_cast; rfl)) (by omega) (by omega))) ?_
   refine Dj (i:=9) zZ5 rfl (by kernel_rfl) rfl rfl (Bn (vs:=[(iV (a150)),(iV (0)),(iV ((((m.houses.length:Nat):Int) - 1)))]) (v:=(.bool (inR a150 0 ((((m.houses.length:Nat):Int) - 1))))) (c_In) Tryd.func79 rfl rfl ⟨rfl,rfl,rfl,trivial⟩ ⟨Ary,?_⟩)
   refine Bg (i:=10) zZ6 rfl (by kernel_rfl) rfl Ary rfl (Ix (k:=inR a150 0 ((((m.houses.length:Nat):Int) - 1))) rfl) ?_
   refine Ec rfl ?_
   apply k146
   refine As (t:=!(inR a150 0 ((((m.houses.length:Nat):Int) - 1)))) rfl (fun b155=>?_) (fun b155=>?_)
   ·have b156:=not_eq_t b155
    have q156:=Ui.1 b156
    refine w_q rfl rfl fun K157 k157=>?_
    refine l_A (iV (6)) rfl rfl ?_
    apply Ac
    apply k157
    refine Aj (Arw (Arz l2 l120)) ?_
    refine Aq ?_
    refine hret _ _ _ ?_
    refine ⟨rfl,rfl,Eq.trans (b:=(iV (6))) rfl ?_⟩
    have hF:Ew m = 0:=by rw [Ew,if_neg (by omega),Fb fun j hj=>p26_1 j (by omega)]
    have hq:Gu m a117 q = 6:=by
     simp [Gu,ha150,b8,b15,b22,b32,b101,b111,b125,b128,b134,b143,b155,b156]
    have hf:Iz m s = 6:=by simp only [Iz,ha117,b8,b15,b22,b32,b101,b111,b125,b128,b134,b143,b155,b156,if_true]; rw [if_neg (by omega),Db p137_1 (by omega) hq (by omega)]
    rw [Ch,Gt q8,Gt q15,Gt hF,Jb,if_neg (by omega),Db p105_1 (by omega) hf (by omega)]
   have b158:=not_eq_f b155
   have q158:=Ge.1 b158
   refine Al ?_
   apply k145
   refine Ai fun K159 k159=>?_
   refine Dc [0,1,2,3,4,5,6,7,8,9,10,11,12,13,14,15] (by kernel_rfl) rfl rfl ?_
   refine Bg (i:=0) Apx rfl (by kernel_rfl) rfl Ary rfl (Ah (v:=(iV ((q:Int)))) h137_11) ?_
   refine Bg (i:=1) Arn rfl (by kernel_rfl) rfl Ary rfl (Gk (p:=(q:Int)) (q:=0) rfl rfl) ?_
   refine Bg (i:=2) Aqz rfl (by kernel_rfl) rfl Ary rfl (Ah (v:=(.bool (decide ((q:Int) > 0)))) rfl) ?_
   refine Akl (decide ((q:Int) > 0)) (fun b160=>?_) (fun b160=>?_)
   ·have q160:=of_decide_eq_true b160
    refine Cd (i:=3) Arc rfl (by kernel_rfl) rfl Ary (Ar rfl rfl rfl b160) (Ay Sale.f_sellers Tryd.underlying59 rfl rfl Vg (by decide) h137_10 r120) fun v161 r161=>?_
    refine Cd (i:=4) Ark rfl (by kernel_rfl) rfl Ary (Ar rfl rfl rfl b160) (Ax Vg rfl r161) fun v162 r162=>?_
    refine Be (i:=5) Aqg rfl (by kernel_rfl) rfl Ary (Ar rfl rfl rfl b160) (Ah (v:=(iV ((q:Int)))) h137_11) ?_
    refine Cd (i:=6) Aqb rfl (by kernel_rfl) rfl Ary (Ar rfl rfl rfl b160) (Ci q Tryd.underlying30 ty3 rfl r162 (q:=(q:Int)) rfl rfl ha150) fun v163 r163=>?_
    have ⟨g164a,g164b⟩:=At.rng r163
    refine Be (i:=7) Aoa rfl (by kernel_rfl) rfl Ary (Ar rfl rfl rfl b160) (Bc ty3 rfl r163) ?_
    refine Cd (i:=8) Amy rfl (by kernel_rfl) rfl Ary (Ar rfl rfl rfl b160) (Ay Sale.f_sellers Tryd.underlying59 rfl rfl Vg (by decide) h137_10 r120) fun v165 r165=>?_
    refine Cd (i:=9) Anr rfl (by kernel_rfl) rfl Ary (Ar rfl rfl rfl b160) (Ax Vg rfl r165) fun v166 r166=>?_
    refine Bg (i:=10) [o1,o1,o1,o1,o1,o1,o1,o1,o1,o1,o1,o0,o0,o0,o0,o0] rfl (by kernel_rfl) rfl Ary (Ar rfl rfl rfl b160) (Ah (v:=(iV ((q:Int)))) h137_11) ?_
    refine Bg (i:=11) [o1,o1,o1,o1,o1,o1,o1,o1,o1,o1,o1,o1,o0,o0,o0,o0] rfl (by kernel_rfl) rfl Ary (Ar rfl rfl rfl b160) (Oq (p:=(q:Int)) (q:=1) rfl rfl (z:=((q:Int) - 1)) (Bo (by first | rfl | omega | (push_cast; rfl)) (by omega) (by omega))) ?_
    obtain ⟨a168,ha168⟩:=Ed (xs:=a117.sellers) (i:=(((q:Int) - 1)).toNat) (by omega)
    refine Hl (i:=12) Ans rfl (by kernel_rfl) rfl Ary (Ar rfl rfl rfl b160) (Ci ((((q:Int) - 1)).toNat) Tryd.underlying30 ty3 rfl r166 (q:=((q:Int) - 1)) rfl (by omega) ha168) fun v167 r167=>?_
    have ⟨g169a,g169b⟩:=At.rng r167
    refine Bg (i:=13) Apc rfl (by kernel_rfl) rfl Ary (Ar rfl rfl rfl b160) (Bc ty3 rfl r167) ?_
    refine Bg (i:=14) Amv rfl (by kernel_rfl) rfl Ary (Ar rfl rfl rfl b160) (Tx (p:=a150) (q:=a168) rfl rfl) ?_
    refine Bg (i:=15) Apa rfl (by kernel_rfl) rfl Ary rfl (Bt rfl b160 (v:=(.bool (decide (a150 ≤ a168)))) rfl) ?_
    refine Ec rfl ?_
    apply k159
    refine As (t:=decide (a150 ≤ a168)) rfl (fun b170=>?_) (fun b170=>?_)
    ·have q170:=of_decide_eq_true b170
     refine w_q rfl rfl fun K171 k171=>?_
     refine l_A (iV (7)) rfl rfl ?_
     apply Ac
     apply k171
     refine Aj (Arw (Arz l2 l120)) ?_
     refine Aq ?_
     refine hret _ _ _ ?_
     refine ⟨rfl,rfl,Eq.trans (b:=(iV (7))) rfl ?_⟩
     have hF:Ew m = 0:=by rw [Ew,if_neg (by omega),Fb fun j hj=>p26_1 j (by omega)]
     have hq:Gu m a117 q = 7:=by
      have hp:a117.sellers[q - 1]? = some a168:=by rw [← ha168]; congr 1; omega
      have h0:0 < q:=by omega
      simp only [Gu,ha150,if_pos h0,hp,b8,b15,b22,b32,b101,b111,b125,b128,b134,b143,b155,b158,b160,b170,if_true]; first | rw [if_pos (by omega)] | rw [if_neg (by omega)]
     have hf:Iz m s = 7:=by simp only [Iz,ha117,b8,b15,b22,b32,b101,b111,b125,b128,b134,b143,b155,b158,b160,b170,if_true]; rw [if_neg (by omega),Db p137_1 (by omega) hq (by omega)]
     rw [Ch,Gt q8,Gt q15,Gt hF,Jb,if_neg (by omega),Db p105_1 (by omega) hf (by omega)]
    have q170:=of_decide_eq_false b170
    refine Al ?_
    apply k144
    refine Ag rfl rfl ?_
    refine Aa rfl (Ah (v:=(iV ((q:Int)))) h137_11) ?_
    refine Aa rfl (Br (p:=(q:Int)) (q:=1) rfl rfl (z:=(((q + 1):Nat):Int)) (Bo (by first | rfl | omega | (push_cast; rfl)) (by omega) (by omega))) ?_
    refine l_A (iV ((((q + 1):Nat):Int))) rfl rfl ?_
    apply Ac
    refine ⟨_,?_,((q + 1)),rfl,rfl,rfl,rfl,h137_1,h137_9,h137_10,rfl,(by omega),(Ef p137_1 (by
 have hp:a117.sellers[q - 1]? = some a168:=by rw [← ha168]; congr 1; omega
 have h0:0 < q:=by omega
 simp only [Gu,ha150,if_pos h0,hp,b8,b15,b22,b32,b101,b111,b125,b128,b134,b143,b155,b158,b160,b170,if_true]; first | rw [if_pos (by omega)] | rw [if_neg (by omega)])),trivial⟩
    omega
   have q160:=of_decide_eq_false b160
   refine Ua (i:=3) Arc rfl (by kernel_rfl) rfl Ary (Bl rfl rfl rfl b160) ?_
   refine Ua (i:=4) Ark rfl (by kernel_rfl) rfl Ary (Bl rfl rfl rfl b160) ?_
   refine Ua (i:=5) Aqg rfl (by kernel_rfl) rfl Ary (Bl rfl rfl rfl b160) ?_
   refine Ua (i:=6) Aqb rfl (by kernel_rfl) rfl Ary (Bl rfl rfl rfl b160) ?_
   refine Ua (i:=7) Aoa rfl (by kernel_rfl) rfl Ary (Bl rfl rfl rfl b160) ?_
   refine Ua (i:=8) Amy rfl (by kernel_rfl) rfl Ary (Bl rfl rfl rfl b160) ?_
   refine Ua (i:=9) Anr rfl (by kernel_rfl) rfl Ary (Bl rfl rfl rfl b160) ?_
   refine Xl (i:=10) [o1,o1,o1,o1,o1,o1,o1,o1,o1,o1,o1,o0,o0,o0,o0,o0] rfl (by kernel_rfl) rfl Ary (Bl rfl rfl rfl b160) ?_
   refine Xl (i:=11) [o1,o1,o1,o1,o1,o1,o1,o1,o1,o1,o1,o1,o0,o0,o0,o0] rfl (by kernel_rfl) rfl Ary (Bl rfl rfl rfl b160) ?_
   refine Xl (i:=12) Ans rfl (by kernel_rfl) rfl Ary (Bl rfl rfl rfl b160) ?_
   refine Xl (i:=13) Apc rfl (by kernel_rfl) rfl Ary (Bl rfl rfl rfl b160) ?_
   refine Xl (i:=14) Amv rfl (by kernel_rfl) rfl Ary (Bl rfl rfl rfl b160) ?_
   refine Bg (i:=15) Apa rfl (by kernel_rfl) rfl Ary rfl (Bm rfl b160 (v:=(.bool (false))) rfl) ?_
   refine Ec rfl ?_
   apply k159
   refine Cg rfl rfl ?_
   refine Al ?_
   apply k144
   refine Ag rfl rfl ?_
   refine Aa rfl (Ah (v:=(iV ((q:Int)))) h137_11) ?_
   refine Aa rfl (Br (p:=(q:Int)) (q:=1) rfl rfl (z:=(((q + 1):Nat):Int)) (Bo (by first | rfl | omega | (push_cast; rfl)) (by omega) (by omega))) ?_
   refine l_A (iV ((((q + 1):Nat):Int))) rfl rfl ?_
   apply Ac
   refine ⟨_,?_,((q + 1)),rfl,rfl,rfl,rfl,h137_1,h137_9,h137_10,rfl,(by omega),(Ef p137_1 (by
 have h0:¬ 0 < q:=by omega
 simp [Gu,ha150,if_neg h0,b8,b15,b22,b32,b101,b111,b125,b128,b134,b143,b155,b158,b160])),trivial⟩
   omega
  have q143:=of_decide_eq_false b143
  refine Bx ?_
  apply k112
  refine Ag rfl rfl ?_
  refine Aa rfl (Ah (v:=(iV ((s:Int)))) h137_9) ?_
  refine Aa rfl (Br (p:=(s:Int)) (q:=1) rfl rfl (z:=(((s + 1):Nat):Int)) (Bo (by first | rfl | omega | (push_cast; rfl)) (by omega) (by omega))) ?_
  refine l_A (iV ((((s + 1):Nat):Int))) rfl rfl ?_
  refine Bj (Arw l120) ?_
  apply Ac
  refine ⟨_,?_,((s + 1)),rfl,rfl,rfl,rfl,h137_1,rfl,(by omega),(Ef p105_1 (by
  simp only [Iz,ha117,b8,b15,b22,b32,b101,b111,b125,b128,b134,b143,if_true]; rw [if_neg (by omega),Fb fun j hj=>p137_1 j (by omega)])),trivial⟩
  omega
 have q111:=of_decide_eq_false b111
 refine Bx ?_
 apply k103
 refine w_q rfl rfl fun K172 k172=>?_
 refine l_A (iV (0)) rfl rfl ?_
 apply Ac
 apply k172
 refine Aj (Arw l2) ?_
 refine Aq ?_
 refine hret _ _ _ ?_
 refine ⟨rfl,rfl,Eq.trans (b:=(iV (0))) rfl ?_⟩
 have hF:Ew m = 0:=by rw [Ew,if_neg (by omega),Fb fun j hj=>p26_1 j (by omega)]
 rw [Ch,Gt q8,Gt q15,Gt hF,Jb,if_neg (by omega),Fb fun j hj=>p105_1 j (by omega)]
end Go.Proofs.YtoefdnbaklajeaaDoor

namespace Go.Proofs.YtoefdnbaklajeaaDoor
open Go
set_option maxRecDepth 100000 in
theorem c_Vast {mn:Bool} {X:Frame→List Frame→Ro→Own→Cy→Prop} {ρ:Ro} {σ:Own} {m:Market} {vm:Value} (rm:Val ρ vm m):CallsH (CX mn X) 16 #[vm] ρ σ (fun w ρ' σ'=>ρ' = ρ∧σ' = σ∧∃ b,w = .bool b):=by
 refine Bh (n:=101) (args:=[vm]) [2] Tryd.func16 rfl rfl rfl rfl fun Q hret hnor=>?_
 refine w_q rfl rfl fun K1 k1=>?_
 refine Ae rfl (Eb (v:=vm) rfl fun k2=>?_)
 refine Bb (a:=m) rm fun ρ2 l2 r2=>?_
 replace rm:=Asa l2 rm
 refine l_A (.bool (false)) rfl rfl ?_
 apply Ac
 apply k1
 refine Ai fun K3 k3=>?_
 refine w_q rfl rfl fun K4 k4=>?_
 refine Ak rfl (Ay Market.f_houses Tryd.underlying26 rfl rfl Hu (by decide) rfl r2) fun v5 r5=>?_
 refine Ak rfl (Ax Hu rfl r5) fun v6 r6=>?_
 have g7:=Val.len r6
 refine Aa rfl (Ce (el:=9) Tryd.underlying22 rfl r6) ?_
 refine Aa rfl (Gk (p:=((m.houses.length:Nat):Int)) (q:=40) rfl rfl) ?_
 refine l_M (.bool (decide (((m.houses.length:Nat):Int) > 40))) rfl rfl ?_
 refine Cn (decide (((m.houses.length:Nat):Int) > 40)) (fun b8=>?_) (fun b8=>?_)
 ·have q8:=of_decide_eq_true b8
  refine Ap (Bl rfl rfl rfl b8) ?_
  refine Ap (Bl rfl rfl rfl b8) ?_
  refine Ap (Bl rfl rfl rfl b8) ?_
  refine Ap (Bl rfl rfl rfl b8) ?_
  refine Aa rfl (Bt rfl b8 (v:=(.bool (true))) rfl) ?_
  refine l_M (.bool (true)) rfl rfl ?_
  refine Ap (Bl rfl rfl rfl rfl) ?_
  refine Ap (Bl rfl rfl rfl rfl) ?_
  refine Ap (Bl rfl rfl rfl rfl) ?_
  refine Ap (Bl rfl rfl rfl rfl) ?_
  refine Aa rfl (Bt rfl rfl (v:=(.bool (true))) rfl) ?_
  refine l_M (.bool (true)) rfl rfl ?_
  refine Ap (Bl rfl rfl rfl rfl) ?_
  refine Ap (Bl rfl rfl rfl rfl) ?_
  refine Ap (Bl rfl rfl rfl rfl) ?_
  refine Ap (Bl rfl rfl rfl rfl) ?_
  refine Aa rfl (Bt rfl rfl (v:=(.bool (true))) rfl) ?_
  apply Ac
  apply k4
  refine Co rfl rfl ?_
  refine w_q rfl rfl fun K9 k9=>?_
  refine l_A (.bool (true)) rfl rfl ?_
  apply Ac
  apply k9
  refine Aj (Arw l2) ?_
  refine Aq ?_
  refine hret _ _ _ ?_
  exact ⟨rfl,rfl,_,rfl⟩
 have q8:=of_decide_eq_false b8
 refine Ak (Ar rfl rfl rfl b8) (Ay Market.f_marks Tryd.underlying26 rfl rfl Hu (by decide) rfl r2) fun v10 r10=>?_
 refine Ak (Ar rfl rfl rfl b8) (Ax Hu rfl r10) fun v11 r11=>?_
 have g12:=Val.len r11
 refine Aa (Ar rfl rfl rfl b8) (Ce (el:=9) Tryd.underlying22 rfl r11) ?_
 refine Aa (Ar rfl rfl rfl b8) (Gk (p:=((m.marks.length:Nat):Int)) (q:=40) rfl rfl) ?_
 refine Aa rfl (Bm rfl b8 (v:=(.bool (decide (((m.marks.length:Nat):Int) > 40)))) rfl) ?_
 refine l_M (.bool (decide (((m.marks.length:Nat):Int) > 40))) rfl rfl ?_
 refine Cn (decide (((m.marks.length:Nat):Int) > 40)) (fun b13=>?_) (fun b13=>?_)
 ·have q13:=of_decide_eq_true b13
  refine Ap (Bl rfl rfl rfl b13) ?_
  refine Ap (Bl rfl rfl rfl b13) ?_
  refine Ap (Bl rfl rfl rfl b13) ?_
  refine Ap (Bl rfl rfl rfl b13) ?_
  refine Aa rfl (Bt rfl b13 (v:=(.bool (true))) rfl) ?_
  refine l_M (.bool (true)) rfl rfl ?_
  refine Ap (Bl rfl rfl rfl rfl) ?_
  refine Ap (Bl rfl rfl rfl rfl) ?_
  refine Ap (Bl rfl rfl rfl rfl) ?_
  refine Ap (Bl rfl rfl rfl rfl) ?_
  refine Aa rfl (Bt rfl rfl (v:=(.bool (true))) rfl) ?_
  apply Ac
  apply k4
  refine Co rfl rfl ?_
  refine w_q rfl rfl fun K14 k14=>?_
  refine l_A (.bool (true)) rfl rfl ?_
  apply Ac
  apply k14
  refine Aj (Arw l2) ?_
  refine Aq ?_
  refine hret _ _ _ ?_
  exact ⟨rfl,rfl,_,rfl⟩
 have q13:=of_decide_eq_false b13
 refine Ak (Ar rfl rfl rfl b13) (Ay Market.f_fields Tryd.underlying26 rfl rfl Se (by decide) rfl r2) fun v15 r15=>?_
 refine Ak (Ar rfl rfl rfl b13) (Ax Se rfl r15) fun v16 r16=>?_
 have g17:=Val.len r16
 refine Aa (Ar rfl rfl rfl b13) (Ce (el:=67) Tryd.underlying23 rfl r16) ?_
 refine Aa (Ar rfl rfl rfl b13) (Gk (p:=((m.fields.length:Nat):Int)) (q:=40) rfl rfl) ?_
 refine Aa rfl (Bm rfl b13 (v:=(.bool (decide (((m.fields.length:Nat):Int) > 40)))) rfl) ?_
 refine l_M (.bool (decide (((m.fields.length:Nat):Int) > 40))) rfl rfl ?_
 refine Cn (decide (((m.fields.length:Nat):Int) > 40)) (fun b18=>?_) (fun b18=>?_)
 ·have q18:=of_decide_eq_true b18
  refine Ap (Bl rfl rfl rfl b18) ?_
  refine Ap (Bl rfl rfl rfl b18) ?_
  refine Ap (Bl rfl rfl rfl b18) ?_
  refine Ap (Bl rfl rfl rfl b18) ?_
  refine Aa rfl (Bt rfl b18 (v:=(.bool (true))) rfl) ?_
  apply Ac
  apply k4
  refine Co rfl rfl ?_
  refine w_q rfl rfl fun K19 k19=>?_
  refine l_A (.bool (true)) rfl rfl ?_
  apply Ac
  apply k19
  refine Aj (Arw l2) ?_
  refine Aq ?_
  refine hret _ _ _ ?_
  exact ⟨rfl,rfl,_,rfl⟩
 have q18:=of_decide_eq_false b18
 refine Ak (Ar rfl rfl rfl b18) (Ay Market.f_sales Tryd.underlying26 rfl rfl Pq (by decide) rfl r2) fun v20 r20=>?_
 refine Ak (Ar rfl rfl rfl b18) (Ax Pq rfl r20) fun v21 r21=>?_
 have g22:=Val.len r21
 refine Aa (Ar rfl rfl rfl b18) (Ce (el:=59) Tryd.underlying24 rfl r21) ?_
 refine Aa (Ar rfl rfl rfl b18) (Gk (p:=((m.sales.length:Nat):Int)) (q:=40) rfl rfl) ?_
 refine Aa rfl (Bm rfl b18 (v:=(.bool (decide (((m.sales.length:Nat):Int) > 40)))) rfl) ?_
 apply Ac
 apply k4
 refine As (t:=decide (((m.sales.length:Nat):Int) > 40)) rfl (fun b23=>?_) (fun b23=>?_)
 ·have q23:=of_decide_eq_true b23
  refine w_q rfl rfl fun K24 k24=>?_
  refine l_A (.bool (true)) rfl rfl ?_
  apply Ac
  apply k24
  refine Aj (Arw l2) ?_
  refine Aq ?_
  refine hret _ _ _ ?_
  exact ⟨rfl,rfl,_,rfl⟩
 have q23:=of_decide_eq_false b23
 refine Al ?_
 apply k3
 refine w_q rfl rfl fun K25 k25=>?_
 refine l_A (iV (0)) rfl rfl ?_
 apply Ac
 apply k25
 refine Ai fun K26 k26=>?_
 refine w_q rfl rfl fun K27 k27=>?_
 refine l_A (iV (0)) rfl rfl ?_
 apply Ac
 apply k27
 refine Ao ?_
 refine Cc (fun mm ee dd ρ' σ'=>∃ (i:Nat) (n:Int),(m.houses.length - i) = mm∧[] = dd∧ρ2 = ρ'∧σ = σ'∧ee 1 = (.pointer (some ⟨k2,0,none⟩))∧ee 3 = (iV (n))∧ee 4 = (iV ((i:Int)))∧(i ≤ m.houses.length)∧True) (m:=_) ⟨0,0,rfl,rfl,rfl,rfl,rfl,rfl,rfl,(Nat.zero_le _),trivial⟩ ?_
 rintro m28 e28 _ _ _ ⟨i,n,rfl,rfl,rfl,rfl,h28_1,h28_3,h28_4,p28_0,_⟩
 refine Ai fun K29 k29=>?_
 refine w_q rfl rfl fun K30 k30=>?_
 refine Aa rfl (Ah (v:=(iV ((i:Int)))) h28_4) ?_
 refine Ak rfl (Ay Market.f_houses Tryd.underlying26 rfl rfl Hu (by decide) h28_1 r2) fun v31 r31=>?_
 refine Ak rfl (Ax Hu rfl r31) fun v32 r32=>?_
 have g33:=Val.len r32
 refine Aa rfl (Ce (el:=9) Tryd.underlying22 rfl r32) ?_
 refine Aa rfl (Da (p:=(i:Int)) (q:=((m.houses.length:Nat):Int)) rfl rfl) ?_
 apply Ac
 apply k30
 refine As (t:=decide ((i:Int) < ((m.houses.length:Nat):Int))) rfl (fun b34=>?_) (fun b34=>?_)
 ·have q34:=of_decide_eq_true b34
  refine Al ?_
  apply k29
  refine Ai fun K35 k35=>?_
  refine Ao ?_
  refine Ag rfl rfl ?_
  refine Aa rfl (Ah (v:=(iV (n))) h28_3) ?_
  refine Ak rfl (Ay Market.f_houses Tryd.underlying26 rfl rfl Hu (by decide) h28_1 r2) fun v36 r36=>?_
  refine Ak rfl (Ax Hu rfl r36) fun v37 r37=>?_
  refine Aa rfl (Ah (v:=(iV ((i:Int)))) h28_4) ?_
  obtain ⟨a39,ha39⟩:=Ed (xs:=m.houses) (i:=i) (by omega)
  refine Ak rfl (Ci i Tryd.underlying22 ty9 rfl r37 (q:=(i:Int)) rfl rfl ha39) fun v38 r38=>?_
  have g40:=At.slen r38
  refine Aa rfl (Oz ty9 rfl r38) ?_
  refine Aa rfl (Afb Tryd.underlying9 (s:=a39) rfl) ?_
  refine Aa rfl (Br (p:=n) (q:=((a39.size:Nat):Int)) rfl rfl (z:=(IntKind.i64.wrap (n + ((a39.size:Nat):Int)))) rfl) ?_
  refine l_A (iV ((IntKind.i64.wrap (n + ((a39.size:Nat):Int))))) rfl rfl ?_
  apply Ac
  apply k35
  refine Ag rfl rfl ?_
  refine Aa rfl (Ah (v:=(iV ((i:Int)))) h28_4) ?_
  refine Aa rfl (Br (p:=(i:Int)) (q:=1) rfl rfl (z:=(((i + 1):Nat):Int)) (Bo (by first | rfl | omega | (push_cast; rfl)) (by omega) (by omega))) ?_
  refine l_A (iV ((((i + 1):Nat):Int))) rfl rfl ?_
  apply Ac
  refine ⟨_,?_,((i + 1)),((IntKind.i64.wrap (n + ((a39.size:Nat):Int)))),rfl,rfl,rfl,rfl,h28_1,rfl,rfl,(by omega),trivial⟩
  omega
 have q34:=of_decide_eq_false b34
 refine Bx ?_
 apply k26
 refine Ai fun K41 k41=>?_
 refine w_q rfl rfl fun K42 k42=>?_
 refine l_A (iV (0)) rfl rfl ?_
 apply Ac
 apply k42
 refine Ao ?_
 refine Cc (fun mm ee dd ρ' σ'=>∃ (i:Nat) (n:Int),(m.marks.length - i) = mm∧[] = dd∧ρ2 = ρ'∧σ = σ'∧ee 1 = (.pointer (some ⟨k2,0,none⟩))∧ee 3 = (iV (n))∧ee 5 = (iV ((i:Int)))∧(i ≤ m.marks.length)∧True) (m:=_) ⟨0,n,rfl,rfl,rfl,rfl,h28_1,h28_3,rfl,(Nat.zero_le _),trivial⟩ ?_
 rintro m43 e43 _ _ _ ⟨i,n,rfl,rfl,rfl,rfl,h43_1,h43_3,h43_5,p43_0,_⟩
 refine Ai fun K44 k44=>?_
 refine w_q rfl rfl fun K45 k45=>?_
 refine Aa rfl (Ah (v:=(iV ((i:Int)))) h43_5) ?_
 refine Ak rfl (Ay Market.f_marks Tryd.underlying26 rfl rfl Hu (by decide) h43_1 r2) fun v46 r46=>?_
 refine Ak rfl (Ax Hu rfl r46) fun v47 r47=>?_
 have g48:=Val.len r47
 refine Aa rfl (Ce (el:=9) Tryd.underlying22 rfl r47) ?_
 refine Aa rfl (Da (p:=(i:Int)) (q:=((m.marks.length:Nat):Int)) rfl rfl) ?_
 apply Ac
 apply k45
 refine As (t:=decide ((i:Int) < ((m.marks.length:Nat):Int))) rfl (fun b49=>?_) (fun b49=>?_)
 ·have q49:=of_decide_eq_true b49
  refine Al ?_
  apply k44
  refine Ai fun K50 k50=>?_
  refine Ao ?_
  refine Ag rfl rfl ?_
  refine Aa rfl (Ah (v:=(iV (n))) h43_3) ?_
  refine Ak rfl (Ay Market.f_marks Tryd.underlying26 rfl rfl Hu (by decide) h43_1 r2) fun v51 r51=>?_
  refine Ak rfl (Ax Hu rfl r51) fun v52 r52=>?_
  refine Aa rfl (Ah (v:=(iV ((i:Int)))) h43_5) ?_
  obtain ⟨a54,ha54⟩:=Ed (xs:=m.marks) (i:=i) (by omega)
  refine Ak rfl (Ci i Tryd.underlying22 ty9 rfl r52 (q:=(i:Int)) rfl rfl ha54) fun v53 r53=>?_
  have g55:=At.slen r53
  refine Aa rfl (Oz ty9 rfl r53) ?_
  refine Aa rfl (Afb Tryd.underlying9 (s:=a54) rfl) ?_
  refine Aa rfl (Br (p:=n) (q:=((a54.size:Nat):Int)) rfl rfl (z:=(IntKind.i64.wrap (n + ((a54.size:Nat):Int)))) rfl) ?_
  refine l_A (iV ((IntKind.i64.wrap (n + ((a54.size:Nat):Int))))) rfl rfl ?_
  apply Ac
  apply k50
  refine Ag rfl rfl ?_
  refine Aa rfl (Ah (v:=(iV ((i:Int)))) h43_5) ?_
  refine Aa rfl (Br (p:=(i:Int)) (q:=1) rfl rfl (z:=(((i + 1):Nat):Int)) (Bo (by first | rfl | omega | (push_cast; rfl)) (by omega) (by omega))) ?_
  refine l_A (iV ((((i + 1):Nat):Int))) rfl rfl ?_
  apply Ac
  refine ⟨_,?_,((i + 1)),((IntKind.i64.wrap (n + ((a54.size:Nat):Int)))),rfl,rfl,rfl,rfl,h43_1,rfl,rfl,(by omega),trivial⟩
  omega
 have q49:=of_decide_eq_false b49
 refine Bx ?_
 apply k41
 refine Ai fun K56 k56=>?_
 refine w_q rfl rfl fun K57 k57=>?_
 refine l_A (iV (0)) rfl rfl ?_
 apply Ac
 apply k57
 refine Ao ?_
 refine Cc (fun mm ee dd ρ' σ'=>∃ (i:Nat) (n:Int),(m.fields.length - i) = mm∧[] = dd∧ρ2 = ρ'∧σ = σ'∧ee 1 = (.pointer (some ⟨k2,0,none⟩))∧ee 3 = (iV (n))∧ee 6 = (iV ((i:Int)))∧(i ≤ m.fields.length)∧True) (m:=_) ⟨0,n,rfl,rfl,rfl,rfl,h43_1,h43_3,rfl,(Nat.zero_le _),trivial⟩ ?_
 rintro m58 e58 _ _ _ ⟨i,n,rfl,rfl,rfl,rfl,h58_1,h58_3,h58_6,p58_0,_⟩
 refine Ai fun K59 k59=>?_
 refine w_q rfl rfl fun K60 k60=>?_
 refine Aa rfl (Ah (v:=(iV ((i:Int)))) h58_6) ?_
 refine Ak rfl (Ay Market.f_fields Tryd.underlying26 rfl rfl Se (by decide) h58_1 r2) fun v61 r61=>?_
 refine Ak rfl (Ax Se rfl r61) fun v62 r62=>?_
 have g63:=Val.len r62
 refine Aa rfl (Ce (el:=67) Tryd.underlying23 rfl r62) ?_
 refine Aa rfl (Da (p:=(i:Int)) (q:=((m.fields.length:Nat):Int)) rfl rfl) ?_
 apply Ac
 apply k60
 refine As (t:=decide ((i:Int) < ((m.fields.length:Nat):Int))) rfl (fun b64=>?_) (fun b64=>?_)
 ·have q64:=of_decide_eq_true b64
  refine Al ?_
  apply k59
  refine Ai fun K65 k65=>?_
  refine Ao ?_
  refine Ai fun K66 k66=>?_
  refine w_q rfl rfl fun K67 k67=>?_
  refine Ak rfl (Ay Market.f_fields Tryd.underlying26 rfl rfl Se (by decide) h58_1 r2) fun v68 r68=>?_
  refine Ak rfl (Ax Se rfl r68) fun v69 r69=>?_
  refine Aa rfl (Ah (v:=(iV ((i:Int)))) h58_6) ?_
  obtain ⟨a71,ha71⟩:=Ed (xs:=m.fields) (i:=i) (by omega)
  refine Ak rfl (Ci i Tryd.underlying23 Ln rfl r69 (q:=(i:Int)) rfl rfl ha71) fun v70 r70=>?_
  refine Ak rfl (Ay FField.f_marks Tryd.underlying67 rfl rfl Ty (by decide) rfl r70) fun v72 r72=>?_
  refine Ak rfl (Ax Ty rfl r72) fun v73 r73=>?_
  have g74:=Val.len r73
  refine Aa rfl (Ce (el:=65) Tryd.underlying27 rfl r73) ?_
  refine Aa rfl (Gk (p:=((a71.marks.length:Nat):Int)) (q:=40) rfl rfl) ?_
  apply Ac
  apply k67
  refine As (t:=decide (((a71.marks.length:Nat):Int) > 40)) rfl (fun b75=>?_) (fun b75=>?_)
  ·have q75:=of_decide_eq_true b75
   refine w_q rfl rfl fun K76 k76=>?_
   refine l_A (.bool (true)) rfl rfl ?_
   apply Ac
   apply k76
   refine Aj (Arw l2) ?_
   refine Aq ?_
   refine hret _ _ _ ?_
   exact ⟨rfl,rfl,_,rfl⟩
  have q75:=of_decide_eq_false b75
  refine Al ?_
  apply k66
  refine Ag rfl rfl ?_
  refine Aa rfl (Ah (v:=(iV (n))) h58_3) ?_
  refine Ak rfl (Ay Market.f_fields Tryd.underlying26 rfl rfl Se (by decide) h58_1 r2) fun v77 r77=>?_
  refine Ak rfl (Ax Se rfl r77) fun v78 r78=>?_
  refine Aa rfl (Ah (v:=(iV ((i:Int)))) h58_6) ?_
  refine Ak rfl (Ci i Tryd.underlying23 Ln rfl r78 (q:=(i:Int)) rfl rfl ha71) fun v79 r79=>?_
  refine Ak rfl (Ay FField.f_name Tryd.underlying67 rfl rfl ty9 (by decide) rfl r79) fun v80 r80=>?_
  have g81:=At.slen r80
  refine Aa rfl (Oz ty9 rfl r80) ?_
  refine Aa rfl (Afb Tryd.underlying9 (s:=a71.name) rfl) ?_
  refine Aa rfl (Br (p:=n) (q:=((a71.name.size:Nat):Int)) rfl rfl (z:=(IntKind.i64.wrap (n + ((a71.name.size:Nat):Int)))) rfl) ?_
  refine l_A (iV ((IntKind.i64.wrap (n + ((a71.name.size:Nat):Int))))) rfl rfl ?_
  apply Ac
  apply k65
  refine Ag rfl rfl ?_
  refine Aa rfl (Ah (v:=(iV ((i:Int)))) h58_6) ?_
  refine Aa rfl (Br (p:=(i:Int)) (q:=1) rfl rfl (z:=(((i + 1):Nat):Int)) (Bo (by first | rfl | omega | (push_cast; rfl)) (by omega) (by omega))) ?_
  refine l_A (iV ((((i + 1):Nat):Int))) rfl rfl ?_
  apply Ac
  refine ⟨_,?_,((i + 1)),((IntKind.i64.wrap (n + ((a71.name.size:Nat):Int)))),rfl,rfl,rfl,rfl,h58_1,rfl,rfl,(by omega),trivial⟩
  omega
 have q64:=of_decide_eq_false b64
 refine Bx ?_
 apply k56
 refine Ai fun K82 k82=>?_
 refine w_q rfl rfl fun K83 k83=>?_
 refine l_A (iV (0)) rfl rfl ?_
 apply Ac
 apply k83
 refine Ao ?_
 refine Cc (fun mm ee dd ρ' σ'=>∃ (i:Nat),(m.sales.length - i) = mm∧[] = dd∧ρ2 = ρ'∧σ = σ'∧ee 1 = (.pointer (some ⟨k2,0,none⟩))∧ee 3 = (iV (n))∧ee 7 = (iV ((i:Int)))∧(i ≤ m.sales.length)∧True) (m:=_) ⟨0,rfl,rfl,rfl,rfl,h58_1,h58_3,rfl,(Nat.zero_le _),trivial⟩ ?_
 rintro m84 e84 _ _ _ ⟨i,rfl,rfl,rfl,rfl,h84_1,h84_3,h84_7,p84_0,_⟩
 refine Ai fun K85 k85=>?_
 refine w_q rfl rfl fun K86 k86=>?_
 refine Aa rfl (Ah (v:=(iV ((i:Int)))) h84_7) ?_
 refine Ak rfl (Ay Market.f_sales Tryd.underlying26 rfl rfl Pq (by decide) h84_1 r2) fun v87 r87=>?_
 refine Ak rfl (Ax Pq rfl r87) fun v88 r88=>?_
 have g89:=Val.len r88
 refine Aa rfl (Ce (el:=59) Tryd.underlying24 rfl r88) ?_
 refine Aa rfl (Da (p:=(i:Int)) (q:=((m.sales.length:Nat):Int)) rfl rfl) ?_
 apply Ac
 apply k86
 refine As (t:=decide ((i:Int) < ((m.sales.length:Nat):Int))) rfl (fun b90=>?_) (fun b90=>?_)
 ·have q90:=of_decide_eq_true b90
  refine Al ?_
  apply k85
  refine Ai fun K91 k91=>?_
  refine Ao ?_
  refine w_q rfl rfl fun K92 k92=>?_
  refine Ak rfl (Ay Market.f_sales Tryd.underlying26 rfl rfl Pq (by decide) h84_1 r2) fun v93 r93=>?_
  refine Ak rfl (Ax Pq rfl r93) fun v94 r94=>?_
  refine Aa rfl (Ah (v:=(iV ((i:Int)))) h84_7) ?_
  obtain ⟨a96,ha96⟩:=Ed (xs:=m.sales) (i:=i) (by omega)
  refine Ak rfl (Ci i Tryd.underlying24 Su rfl r94 (q:=(i:Int)) rfl rfl ha96) fun v95 r95=>?_
  refine Ak rfl (Ay Sale.f_sellers Tryd.underlying59 rfl rfl Vg (by decide) rfl r95) fun v97 r97=>?_
  refine Ak rfl (Ax Vg rfl r97) fun v98 r98=>?_
  have g99:=Val.len r98
  refine Aa rfl (Ce (el:=3) Tryd.underlying30 rfl r98) ?_
  refine Aa rfl (Gk (p:=((a96.sellers.length:Nat):Int)) (q:=40) rfl rfl) ?_
  apply Ac
  apply k92
  refine As (t:=decide (((a96.sellers.length:Nat):Int) > 40)) rfl (fun b100=>?_) (fun b100=>?_)
  ·have q100:=of_decide_eq_true b100
   refine w_q rfl rfl fun K101 k101=>?_
   refine l_A (.bool (true)) rfl rfl ?_
   apply Ac
   apply k101
   refine Aj (Arw l2) ?_
   refine Aq ?_
   refine hret _ _ _ ?_
   exact ⟨rfl,rfl,_,rfl⟩
  have q100:=of_decide_eq_false b100
  refine Al ?_
  apply k91
  refine Ag rfl rfl ?_
  refine Aa rfl (Ah (v:=(iV ((i:Int)))) h84_7) ?_
  refine Aa rfl (Br (p:=(i:Int)) (q:=1) rfl rfl (z:=(((i + 1):Nat):Int)) (Bo (by first | rfl | omega | (push_cast; rfl)) (by omega) (by omega))) ?_
  refine l_A (iV ((((i + 1):Nat):Int))) rfl rfl ?_
  apply Ac
  refine ⟨_,?_,((i + 1)),rfl,rfl,rfl,rfl,h84_1,h84_3,rfl,(by omega),trivial⟩
  omega
 have q90:=of_decide_eq_false b90
 refine Bx ?_
 apply k82
 refine w_q rfl rfl fun K102 k102=>?_
 refine Aa rfl (Ah (v:=(iV (n))) h84_3) ?_
 refine Aa rfl (Gk (p:=n) (q:=1000) rfl rfl) ?_
 refine l_A (.bool (decide (n > 1000))) rfl rfl ?_
 apply Ac
 apply k102
 refine Aj (Arw l2) ?_
 refine Aq ?_
 refine hret _ _ _ ?_
 exact ⟨rfl,rfl,_,rfl⟩
end Go.Proofs.YtoefdnbaklajeaaDoor

namespace Go.Proofs.YtoefdnbaklajeaaDoor
open Go
theorem sold_le {sl:Nat→Nat→Bool} {cap:Nat→Int} {xs:List Int} (ok:FlowOk sl cap xs) {s:Nat} (hs:s < 8):0 ≤ Fv xs s:=Sb fun h hh=>ok.pos s h hs hh
section
variable {sl:Nat→Nat→Bool} {cap:Nat→Int} {sale o h:Nat} {grams n:Int} {xs xs':List Int} {tr trk tr':List Bool}
end
end Go.Proofs.YtoefdnbaklajeaaDoor

namespace Go.Proofs.YtoefdnbaklajeaaDoor
open Go
theorem noRecv_obj {σ:Own} {k:Nat} {o:Obj} (h:Js σ):Js ((k,Res.obj o) :: σ):=fun c vs hm=>by
  rcases List.mem_cons.1 hm with e | hm
  · injection e with _ e; cases e
  · exact h c vs hm
end Go.Proofs.YtoefdnbaklajeaaDoor

namespace Go.Proofs.YtoefdnbaklajeaaDoor
open Go
theorem mem_lv {m:Market} {n x:Nat}:x ∈ lv m n↔x < 1 <<< m.houses.length∧De x = n∧Fk m x = true:=by
  unfold lv Aoo
  rw [List.mem_filter,List.mem_range,Bool.and_eq_true,beq_iff_eq]
theorem lv_ne {m:Market} {n x:Nat} (h:x ∈ lv m n):(!(lv m n).isEmpty) = true:=by
  cases hl:lv m n with
  | nil=>rw [hl] at h; cases h
  | cons a l=>rfl
theorem che_is {m:Market} (ok:MarketOk m):(∃ x,x ∈ lv m (Abl m))∧∀ j,j < Abl m→∀ x,x ∉ lv m j:=by
  obtain ⟨n,hn,he⟩:=Aku ok
  unfold Abl
  rcases Ft (n:=m.houses.length + 1) (p:=fun n=>!(lv m n).isEmpty) with ⟨i,_,hp,hlt,hf⟩ | ⟨h1,_⟩
  · rw [hf]
    refine ⟨?_,fun j hj x hx=>?_⟩
    · show ∃ x,x ∈ lv m i
      cases hl:lv m i with
      | nil=>simp only [hl] at hp; cases hp
      | cons a l=>exact ⟨a,List.mem_cons_self ..⟩
    · have h2:=hlt j hj
      have h3:=lv_ne hx
      rw [h2] at h3; cases h3
  · have:=h1 n hn
    rw [he] at this; cases this
theorem che_le {m:Market} (ok:MarketOk m) {x:Nat} (hx:x < 1 <<< m.houses.length) (he:Fk m x = true):Abl m ≤ De x:=by
  rcases Nat.lt_or_ge (De x) (Abl m) with h | h
  · exact absurd (mem_lv.2 ⟨hx,rfl,he⟩) ((che_is ok).2 _ h x)
  · exact h
theorem bel_1 {xs:List Nat} {k s:Nat} (hs:s ∈ xs) (h:Pt xs k = 1):Cu s k = true:=by
  unfold Pt at h
  split at h
  · cases h
  · split at h
    · rename_i h2
      have:=List.any_eq_false.1 (Afj.1 h2) s hs
      simpa using this
    · cases h
theorem bel_2 {xs:List Nat} {k s:Nat} (hs:s ∈ xs) (h:Pt xs k = 2):Cu s k = false:=by
  unfold Pt at h
  split at h
  · rename_i h2
    have:=List.any_eq_false.1 (Aat.1 h2) s hs
    simpa using this
  · split at h <;> cases h
end Go.Proofs.YtoefdnbaklajeaaDoor

namespace Go.Proofs.YtoefdnbaklajeaaDoor
open Go
/-- More may be read,and these blocks are still owned. -/
def leO (ρ₀:Ro) (A:Own):Ro→Own→Prop:=fun ρ' σ'=>Ro.le ρ₀ ρ'∧∀ p ∈ A,p ∈ σ'
def YldO (P:Program) (ρ₀:Ro) (A:Own) (e:Env) (op:Op) (ty:TypeId) (v:Value):Prop :=
  ∀ ρ' σ d pos af g,leO ρ₀ A ρ' σ→wpS P ρ' (execOp (Af e) ⟨d,op,ty,pos,af,g⟩) σ (fun nx σ'=>nx = .value v∧σ' = σ)
theorem Yld.o {P:Program} {ρ₀:Ro} {A:Own} {e:Env} {op:Op} {ty:TypeId} {v:Value} (h:Yld P ρ₀ e op ty v):YldO P ρ₀ A e op ty v:=fun ρ' σ d pos af g hS=>h ρ' σ d pos af g hS.1
theorem subN {σ:Own}:∀ p ∈ ([]:Own),p ∈ σ:=fun p hp=>by cases hp
theorem subC {A σ:Own} {x:Nat × Res} (h:∀ p ∈ A,p ∈ σ):∀ p ∈ x :: A,p ∈ x :: σ:=fun p hp=>by
  rcases List.mem_cons.1 hp with rfl | hp
  · exact List.mem_cons_self ..
  · exact List.mem_cons_of_mem _ (h p hp)
theorem subG {A σ gr:Own} (h:∀ p ∈ A,p ∈ σ):∀ p ∈ gr ++ A,p ∈ gr ++ σ:=fun p hp=>by
  rcases List.mem_append.1 hp with hp | hp
  · exact List.mem_append_left _ hp
  · exact List.mem_append_right _ (h p hp)
theorem subB {A σ:Own} {x:Nat × Res} (h:∀ p ∈ A,p ∈ σ):∀ p ∈ A,p ∈ x :: σ:=fun p hp=>List.mem_cons_of_mem _ (h p hp)
theorem subL {A σ gr:Own} (h:∀ p ∈ A,p ∈ σ):∀ p ∈ A,p ∈ gr ++ σ:=fun p hp=>List.mem_append_right _ (h p hp)
section
variable {C:Ctx} {b:FB} {n:Nat} {l₀ rest:List Oper} {Q:Env→List Deferred→Ro→Own→Prop} {e:Env} {ds:List Deferred} {ρ ρ₀ ρ₁:Ro} {σ A:Own} {pz:List Nat} {fuel:Nat}
variable {d i:Nat} {op:Op} {ty:TypeId} {pos:String} {af:Array Edge} {g:Option (Nat × Bool)} {v:Value} {li:List Bool}
theorem l_valO (hS:leO ρ₀ A ρ σ) (hw:Bz l₀.toArray ⟨some d,op,ty,pos,af,g⟩ e = true) (hy:YldO C.P ρ₀ A e op ty v) (h:Ey C b n l₀ rest Q (upd e d v) ds ρ σ):Ey C b n l₀ (⟨some d,op,ty,pos,af,g⟩ :: rest) Q e ds ρ σ :=
  Ada hw (Et (by rintro nx σ' ⟨rfl,rfl⟩; exact h) _ _ (hy ρ σ _ _ _ _ hS))
theorem l_valOE {F:Value→Prop} (hS:leO ρ₀ A ρ σ) (hw:Bz l₀.toArray ⟨some d,op,ty,pos,af,g⟩ e = true) (hy:∃ v,F v∧YldO C.P ρ₀ A e op ty v) (h:∀ v,F v→Ey C b n l₀ rest Q (upd e d v) ds ρ σ):Ey C b n l₀ (⟨some d,op,ty,pos,af,g⟩ :: rest) Q e ds ρ σ :=
  let ⟨v,h1,h2⟩:=hy; l_valO hS hw h2 (h v h1)
theorem o_begin {id:Nat} {Q:Hv} (A:Own) (pz:List Nat) (hm:C.P.follows .mixedOrders = true) (hs:Nk n l₀ = true) (hk:b.kind = .normal)
    (h:El C b l₀.toArray (fun e ds ρ σ=>Q .normal e ds ρ σ) pz (leO ρ A) l₀.length (List.replicate l₀.length false).toArray e ds ρ σ):WpC C b n (.region id l₀.toArray true) Q e ds ρ σ :=
  Vb pz (leO ρ A) hm (Ie hs) (by rw [hk]; simp) (by simpa using h)
theorem o_end (hr:Dk l₀ li = []) (h:Q e ds ρ σ):El C b l₀.toArray Q pz (leO ρ₀ A) fuel li.toArray e ds ρ σ:=Afi (by rw [Hf]; exact hr) h fuel
theorem o_val (li':List Bool) (hli:li.set i true = li') (ht:Ps l₀ li pz i = true) (hi:l₀[i]? = some ⟨some d,op,ty,pos,af,g⟩)
    (hS:leO ρ₀ A ρ σ) (hw:Bz l₀.toArray ⟨some d,op,ty,pos,af,g⟩ e = true) (hy:YldO C.P ρ₀ A e op ty v) (h:El C b l₀.toArray Q pz (leO ρ₀ A) fuel li'.toArray (upd e d v) ds ρ σ) :
    El C b l₀.toArray Q pz (leO ρ₀ A) (fuel + 1) li.toArray e ds ρ σ:=by
  obtain ⟨h1,h2,h3,h4⟩:=Vy ht
  refine Wg (by rw [List.getElem?_toArray]; exact hi) h1 h2 h3 h4 (.inl ⟨hw,fun ρ' σ' hS'=>hy ρ' σ' _ _ _ _ hS'⟩) hS ?_
  rw [Mm hli]; exact h
/-- The one that may come up. -/
theorem o_run (li':List Bool) (hli:li.set i true = li') (hr:Dk l₀ li = [i]) (hi:l₀[i]? = some ⟨some d,op,ty,pos,af,g⟩) (hw:Bz l₀.toArray ⟨some d,op,ty,pos,af,g⟩ e = true)
    (h:wpS C.P ρ (execOp (Af e) ⟨some d,op,ty,pos,af,g⟩) σ (NextH C (fun v ds' ρ' σ'=>leO ρ₀ A ρ' σ'∧El C b l₀.toArray Q pz (leO ρ₀ A) fuel li'.toArray (upd e d v) ds' ρ' σ') b.round ds ρ)) :
    El C b l₀.toArray Q pz (leO ρ₀ A) (fuel + 1) li.toArray e ds ρ σ:=by
  refine Nn ((Hf _ _).trans hr) (by simp) fun j hj=>?_
  rw [List.mem_singleton] at hj; subst hj
  unfold OpH
  simp only [List.getElem?_toArray,hi,Mm hli]
  rw [if_pos hw]
  exact Et (fun nx σ' hn=>hn.mono fun v ds ρ σ hh=>⟨fun _=>hh.1,hh.2⟩) _ _ h
/-- The one that may come up,and that waits for those that were taken first. -/
theorem o_runLN (li':List Bool) (hli:li.set i true = li') (hr:Dk l₀ li = [i]) (hl:Pc l₀.toArray pz i = true) (hi:l₀[i]? = some ⟨none,op,ty,pos,af,g⟩) (hw:Bz l₀.toArray ⟨none,op,ty,pos,af,g⟩ e = true)
    (h:wpS C.P ρ (execOp (Af e) ⟨none,op,ty,pos,af,g⟩) σ (NextH C (fun _ ds' ρ' σ'=>El C b l₀.toArray Q pz (leO ρ₀ A) fuel li'.toArray e ds' ρ' σ') b.round ds ρ)) :
    El C b l₀.toArray Q pz (leO ρ₀ A) (fuel + 1) li.toArray e ds ρ σ:=by
  refine Nn ((Hf _ _).trans hr) (by simp) fun j hj=>?_
  rw [List.mem_singleton] at hj; subst hj
  unfold OpH
  simp only [List.getElem?_toArray,hi,Mm hli]
  rw [if_pos hw]
  exact Et (fun nx σ' hn=>hn.mono fun v ds ρ σ hh=>⟨fun h=>(by rw [hl] at h; cases h),hh⟩) _ _ h
theorem o_val1 (li':List Bool) (hli:li.set i true = li') (hr:Dk l₀ li = [i]) (hi:l₀[i]? = some ⟨some d,op,ty,pos,af,g⟩) (hS:leO ρ₀ A ρ σ) (hw:Bz l₀.toArray ⟨some d,op,ty,pos,af,g⟩ e = true) (hy:YldO C.P ρ₁ A e op ty v) (hS1:leO ρ₁ A ρ σ)
    (h:El C b l₀.toArray Q pz (leO ρ₀ A) fuel li'.toArray (upd e d v) ds ρ σ):El C b l₀.toArray Q pz (leO ρ₀ A) (fuel + 1) li.toArray e ds ρ σ :=
  o_run li' hli hr hi hw (Et (by rintro nx σ' ⟨rfl,rfl⟩; exact ⟨hS,h⟩) _ _ (hy ρ σ _ _ _ _ hS1))
end
section
variable {P:Program} {ρ₀:Ro} {A:Own} {e:Env} {ty t t':TypeId} {x:Operand} {v:Value}
theorem y_loadOC {r off:Nat} {c:List Value} {fz:Nat × Nat} (hT:∃ d,P.underlying t = some d∧Rb d = false) (hx:Af e x = .pointer (some ⟨r,off,none⟩)) (hm:(r,Res.obj (.cells c.toArray t' fz)) ∈ A) (hc:c[off]? = some v):YldO P ρ₀ A e (.load t x) ty v:=fun ρ' σ d pos af g hS=>by
  show wpS P ρ' ((Instr.loadAt t (Af e x)).bind fun v=>Sem.pure (Next.value v)) σ _
  rw [Ad,hx]
  show wpS P ρ' (loadVar t ⟨r,off,none⟩) σ _
  show wpS P ρ' ((isAgg t).bind _) σ _
  rw [Ad]
  refine Hd hT ?_
  exact ⟨rfl,rfl,_,v,.inr (hS.2 _ hm),by simpa [Hc] using hc,rfl,rfl⟩
/-- One cell of an element of a slice that grows is read. -/
theorem y_loadG {α β:Type} [Dat α] [Dat β] {o off i:Nat} {get:α→β} {xs:List α} {z:α} {gr:Own} {el:TypeId} (hf:Fld α β o get) (ha:Dat.agg β = false) (hG:Grow ρ₀ el v xs gr) (hsub:∀ p ∈ gr,p ∈ A) (hi:xs[i]? = some z)
    (hT:∃ d,P.underlying t = some d∧Rb d = false) (hx:Af e x = .pointer (some ⟨Aiv v,off,none⟩)) (ho:off = i * Dat.k α + o):∃ w,Val ρ₀ w (get z)∧YldO P ρ₀ A e (.load t x) ty w:=by
  have hil:i < xs.length:=(List.getElem?_eq_some_iff.1 hi).1
  rcases hG.2.2 with ⟨_,h2⟩ | ⟨r,cap,cs,rs,gb,e1,e2,hr,hl,hc⟩
  · rw [h2] at hil; simp at hil
  · subst e1 e2
    obtain ⟨c,post,h1,h2⟩:=hr.get hi
    obtain ⟨pre,cs',post',h3,h4,h5⟩:=hf.at_ _ _ _ h2
    have h6:cs'.length = 1:=(Dat.len h5).trans (Dat.one ha)
    match cs',h6 with
    | [w],_ =>
      refine ⟨w,⟨[w],h5,by unfold Wr; rw [ha]; rfl⟩,y_loadOC hT hx (hsub _ (List.mem_cons_self ..)) ?_⟩
      have h7:cs.drop off = [w] ++ (post' ++ post):=by rw [ho,← List.drop_drop,h1,h3,← h4,List.append_assoc,List.drop_left,List.append_assoc]
      have h8:cs[off]? = some w:=by
        have:=congrArg (·[0]?) h7
        simpa using this
      rw [List.getElem?_append_left (List.getElem?_eq_some_iff.1 h8).1,h8]
end
theorem sale_set0 {ρ:Ro} {z:Sale} {a:Int} (ha:I64 a) (cs:List Value) (h:Dat.rep ρ cs z):Dat.rep ρ (cs.set 0 (.int .i64 a)) (⟨a,z.sellers⟩:Sale):=by
  obtain ⟨q0,r0,f0,⟨a0,b0⟩,hr⟩:=h
  subst f0 a0
  exact ⟨[.int .i64 a],r0,rfl,⟨rfl,ha⟩,hr⟩
/-- A growing slice of sales,but that the sellers of one of them are held elsewhere. -/
def GrowS (ρ:Ro) (v:Value) (xs:List Sale) (i:Nat) (w:Value) (gr:Own):Prop :=
  (∀ p ∈ gr,∃ o,p.2 = Res.obj o)∧xs.length < 2 ^ 60∧∃ r cap ca cc rs gb z,xs[i]? = some z∧v = .slice (some ⟨r,0,none⟩) xs.length cap∧gr = (r,.obj (.cells (ca ++ (.int .i64 z.grams :: w :: cc) ++ rs).toArray 59 (0,0))) :: gb ∧
    I64 z.grams∧ca.length = i * 2∧(∀ (w':Value) (ys:List Int) (ρ':Ro),Ro.le ρ ρ'→Val ρ' w' ys→Rows ρ' (ca ++ (.int .i64 z.grams :: w' :: cc)) (xs.set i ⟨z.grams,ys⟩))∧(ca ++ (.int .i64 z.grams :: w :: cc) ++ rs).length = cap * 2∧xs.length ≤ cap
theorem GrowS.mono {ρ ρ':Ro} {v w:Value} {xs:List Sale} {i:Nat} {gr:Own} (hle:Ro.le ρ ρ') (h:GrowS ρ v xs i w gr):GrowS ρ' v xs i w gr:=by
  obtain ⟨h1,h2,r,cap,ca,cc,rs,gb,z,h3,h4,h5,h6,h7,h8,h9,h10⟩:=h
  exact ⟨h1,h2,r,cap,ca,cc,rs,gb,z,h3,h4,h5,h6,h7,fun w' ys ρ'' hl hv=>h8 w' ys ρ'' (hle.trans hl) hv,h9,h10⟩
section
variable {P:Program} {ρ₀:Ro} {A:Own} {e:Env} {ty t t':TypeId} {x y:Operand} {v w:Value} {xs:List Sale} {i:Nat} {gr:Own}
end
section
variable {C:Ctx} {e:Env} {ds:List Deferred} {ρ:Ro} {σ:Own} {K:Value→List Deferred→Ro→Own→Prop} {rd:Option Nat} {dd:Option Tmp}
variable {ty:TypeId} {pos:String} {af:Array Edge} {g:Option (Nat × Bool)} {x y:Operand} {v w w':Value} {t t':TypeId} {xs:List Sale} {i:Nat} {gr:Own}
end
theorem grow_rep {α:Type} [Dat α] {ρ:Ro} {el:TypeId} {v:Value} {xs:List α} {gr:Own} {i:Nat} {z:α} (hG:Grow ρ el v xs gr) (hi:xs[i]? = some z):∃ cs,Dat.rep ρ cs z:=by
  rcases hG.2.2 with ⟨_,h2⟩ | ⟨r,cap,cs,rs,gb,e1,e2,hr,_⟩
  · subst h2; simp at hi
  · obtain ⟨c,post,_,h2⟩:=hr.get hi; exact ⟨c,h2⟩
theorem grow_i64 {ρ:Ro} {el:TypeId} {v:Value} {xs:List Int} {gr:Own} {i:Nat} {z:Int} (hG:Grow ρ el v xs gr) (hi:xs[i]? = some z):I64 z:=let ⟨_,h⟩:=grow_rep hG hi; h.2
theorem grow_g64 {ρ:Ro} {el:TypeId} {v:Value} {xs:List Sale} {gr:Own} {i:Nat} {z:Sale} (hG:Grow ρ el v xs gr) (hi:xs[i]? = some z):I64 z.grams:=by
  obtain ⟨_,q0,r0,f0,⟨_,b0⟩,_⟩:=grow_rep hG hi; exact b0
section
variable {P:Program} {ρ₀ ρ:Ro} {A:Own} {e:Env} {ty t t':TypeId} {x y:Operand} {v:Value}
theorem y_loadGi {off i:Nat} {xs:List Int} {z:Int} {gr:Own} {el:TypeId} (hG:Grow ρ₀ el v xs gr) (hsub:∀ p ∈ gr,p ∈ A) (hi:xs[i]? = some z) (hT:∃ d,P.underlying t = some d∧Rb d = false) (hx:Af e x = .pointer (some ⟨Aiv v,off,none⟩)) (ho:off = i * Dat.k Int):YldO P ρ₀ A e (.load t x) ty (.int .i64 z):=by
  obtain ⟨w,h1,h2⟩:=y_loadG (ty:=ty) Fld.self rfl hG hsub hi hT hx (o:=0) (by rw [ho]; rfl)
  obtain ⟨rfl,_⟩:=Cv.1 h1
  exact h2
theorem y_loadGg {off i:Nat} {xs:List Sale} {z:Sale} {gr:Own} {el:TypeId} (hG:Grow ρ₀ el v xs gr) (hsub:∀ p ∈ gr,p ∈ A) (hi:xs[i]? = some z) (hT:∃ d,P.underlying t = some d∧Rb d = false) (hx:Af e x = .pointer (some ⟨Aiv v,off,none⟩)) (ho:off = i * Dat.k Sale + 0):YldO P ρ₀ A e (.load t x) ty (.int .i64 z.grams):=by
  obtain ⟨w,h1,h2⟩:=y_loadG (ty:=ty) Sale.f_grams rfl hG hsub hi hT hx ho
  obtain ⟨rfl,_⟩:=Cv.1 h1
  exact h2
theorem y_min3 {k:IntKind} {p q r:Int} {z:Operand} {tys:Array TypeId} (hx:Af e x = .int k p) (hy:Af e y = .int k q) (hz:Af e z = .int k r):Yld P ρ e (.call ⟨.builtin .min,#[x,y,z],tys⟩) ty (.int k (min (min p q) r)):=by
  refine Lv (args:=[x,y,z]) (vs:=[.int k p,.int k q,.int k r]) (s:=fun _=>pure (.int k (min (min p q) r))) (by simp [hx,hy,hz]) (fun cs=>?_) ?_
  · have e0:builtin .min tys ty cs [.int k p,.int k q,.int k r].toArray = (Builtin.min_ tys ty #[.int k p,.int k q,.int k r]).bind fun v=>Sem.pure (Next.value v):=rfl
    rw [e0]
    have e1:Builtin.min_ tys ty #[.int k p,.int k q,.int k r] = pure (.int k (min (min p q) r)):=by
      have h1:(if q < p then q else p) = min p q:=by split <;> omega
      have h2:(if r < min p q then r else min p q) = min (min p q) r:=by split <;> omega
      simp only [Builtin.min_,List.foldlM_cons,List.foldlM_nil,Builtin.min2]
      rw [h1]
      show (Sem.pure (Value.int k (if r < min p q then r else min p q)):Sem Value) = _
      rw [h2]; rfl
    rw [e1]
  · exact fun cs ρ' σ' _=>⟨rfl,rfl⟩
end
end Go.Proofs.YtoefdnbaklajeaaDoor

namespace Go.Proofs.YtoefdnbaklajeaaDoor
open Go
/-- A number within a span,as is chosen. -/
def oneI (x:Span) (b:Nat):Int:=x.low + (b:Int) % (x.high - x.low + 1)
theorem one_in {x:Span} {b:Nat} (h:x.low ≤ x.high):x.low ≤ oneI x b∧oneI x b ≤ x.high:=by
  unfold oneI
  have h1:=Int.emod_nonneg (b:Int) (show x.high - x.low + 1 ≠ 0 by omega)
  have h2:=Int.emod_lt_of_pos (b:Int) (show 0 < x.high - x.low + 1 by omega)
  omega
end Go.Proofs.YtoefdnbaklajeaaDoor

namespace Go.Proofs.YtoefdnbaklajeaaDoor
open Go Go.WideShapes
/-- A number without a sign of two bytes. -/
structure UH where
  n:Nat
  lt:n < 65536
instance:Dat UH where
  k:=1
  agg:=false
  rep _ cs x:=cs = [.int .u16 (x.n:Int)]
  mono _ h:=h
  len h:=by rw [h]; rfl
  sgl h:=by rw [h]; simp [single]
  one _:=rfl
theorem val_uh {ρ:Ro} {v:Value} {x:UH}:Val ρ v x↔v = .int .u16 (x.n:Int) :=
  ⟨fun ⟨cs,h1,h2⟩=>by rw [h2,show cs = [.int .u16 (x.n:Int)] from h1]; rfl,fun h=>⟨[v],by rw [h]; rfl,rfl⟩⟩
theorem ty68:GoTy Tryd.prog 68 UH:=⟨⟨_,Tryd.underlying68,rfl⟩,⟨_,Ab Tryd.typeInfo68,rfl⟩⟩
theorem y_load_uh {P:Program} {ρ:Ro} {e:Env} {ty t:TypeId} {x:Operand} {p:Value} {a:UH} (hT:GoTy P t UH) (hx:Af e x = p) (hp:At ρ p a):Yld P ρ e (.load t x) ty (.int .u16 (a.n:Int)):=by
  obtain ⟨v,h1,h2⟩:=Ax (ty:=ty) hT hx hp
  rw [val_uh.1 h1] at h2; exact h2
theorem dec_uh {t:TypeId} (ht:Tryd.prog.underlying t = some (.int .u16)) (hc:Tryd.prog.cellsOf t = 1):Apq UH t :=
  ⟨hc,fun H enc W fuel cs x h _=>by
    obtain ⟨n,h1,_,h3⟩:=DataW.trod_int ht h
    simp [Lit.wf,IntKind.min,IntKind.max,IntKind.signed,IntKind.bits] at h3
    refine ⟨⟨n.toNat,by omega⟩,?_⟩
    show cs = [.int .u16 ((n.toNat:Nat):Int)]
    rw [h1,Int.toNat_of_nonneg (by omega)]⟩
section
variable {H:Type} {enc:TypeId × Value→H} {W:World} {r:Reach} {base t:Nat} {v:Value} {d:DataW H} {p:List MemPlace}
set_option maxRecDepth 100000 in
theorem arg_u8 (ht:Tryd.prog.underlying t = some (.int .u8)) (hv:Value.okWide Tryd.prog W r base t v) (h:DataW.Trod enc Tryd.prog W 0 (fun _=>true) true t v d p):∃ n:Nat,v = .int .u8 (n:Int)∧n < 256:=by
  obtain ⟨n,rfl⟩:=okWide_int ht hv
  obtain ⟨fuel,hf⟩:=h
  obtain ⟨m,h1,_,h3⟩:=DataW.trod_int (cs:=[.int .u8 n]) ht hf
  simp [Lit.wf,IntKind.min,IntKind.max,IntKind.signed,IntKind.bits] at h3
  obtain rfl:n = m:=by simpa using h1
  exact ⟨n.toNat,by rw [Int.toNat_of_nonneg (by omega)],by omega⟩
end
/-- The k-th choice,or 0. -/
def chooseN (l:List UH) (k:Nat):Nat:=match l[k]? with | some x=>x.n | none=>0
theorem chooseN_lt {l:List UH} {k:Nat}:chooseN l k < 65536:=by
  unfold chooseN; split
  · rename_i x _; exact x.lt
  · decide
theorem chooseN_at {l:List UH} {k:Nat} {x:UH} (h:l[k]? = some x):chooseN l k = x.n:=by unfold chooseN; rw [h]
theorem chooseN_out {l:List UH} {k:Nat} (h:l.length ≤ k):chooseN l k = 0:=by unfold chooseN; rw [List.getElem?_eq_none h]
end Go.Proofs.YtoefdnbaklajeaaDoor

namespace Go.Proofs.YtoefdnbaklajeaaDoor
open Go
/-- What a house really has of a field,as is chosen. -/
def realAt (m:Market) (picks:List UH) (h i:Nat):Int:=match m.fields[i]? with
  | some x=>if x.house = (h:Int) then oneI x.grows (chooseN picks i) else 0
  | none=>0
def realTo (m:Market) (picks:List UH) (h i:Nat):Int:=((List.range i).map (realAt m picks h)).sum
def realH (m:Market) (picks:List UH) (h:Nat):Int:=realTo m picks h m.fields.length
theorem realTo_succ {m:Market} {picks:List UH} {h i:Nat}:realTo m picks h (i + 1) = realTo m picks h i + realAt m picks h i:=by
  unfold realTo; rw [List.range_succ,List.map_append,List.sum_append]; simp
theorem realAt_le {m:Market} (ok:MarketOk m) {picks:List UH} {h i:Nat} {x:FField} (hx:m.fields[i]? = some x):0 ≤ realAt m picks h i∧realAt m picks h i ≤ Es (h:Int) x∧Es (h:Int) x ≤ 1000000:=by
  obtain ⟨h1,h2,h3⟩:=(ok.field i x hx).2.2.2.1
  have:=one_in (x:=x.grows) (b:=chooseN picks i) h2
  unfold realAt Es
  rw [hx]
  simp only
  split <;> omega
theorem realTo_le {m:Market} (ok:MarketOk m) {picks:List UH} {h:Nat}:∀ i,i ≤ m.fields.length→0 ≤ realTo m picks h i∧realTo m picks h i ≤ ((m.fields.take i).map (Es (h:Int))).sum∧((m.fields.take i).map (Es (h:Int))).sum ≤ 1000000 * (i:Int)
  | 0,_=>by simp [realTo]
  | i + 1,hi=>by
    have ih:=realTo_le ok (picks:=picks) (h:=h) i (by omega)
    have hx:m.fields[i]? = some m.fields[i]:=List.getElem?_eq_getElem (by omega)
    have h1:=realAt_le ok (picks:=picks) (h:=h) hx
    rw [realTo_succ,List.take_add_one,hx]
    simp only [Option.toList_some,List.map_append,List.map_cons,List.map_nil,List.sum_append,List.sum_cons,List.sum_nil]
    push_cast
    omega
theorem realH_le {m:Market} (ok:MarketOk m) {picks:List UH} {h:Nat}:0 ≤ realH m picks h∧realH m picks h ≤ Eo m (h:Int):=by
  have:=realTo_le ok (picks:=picks) (h:=h) m.fields.length (Nat.le_refl _)
  rw [List.take_length] at this
  exact ⟨this.1,this.2.1⟩
theorem realTo_small {m:Market} (ok:MarketOk m) {picks:List UH} {h i:Nat} (hi:i ≤ m.fields.length):0 ≤ realTo m picks h i∧realTo m picks h i ≤ 6000000:=by
  have:=realTo_le ok (picks:=picks) (h:=h) i hi
  have:=ok.nfields
  omega
def hasOf (m:Market) (xs:List Int):List Int:=(List.range m.houses.length).map (lf xs)
def row0 (m:Market) (picks:List UH):List Int:=List.replicate 40 0 ++ (List.range 5).map (realH m picks)
theorem row0_pt {m:Market} {picks:List UH} {s h:Nat} (hs:s < 8) (hh:h < 5):pt (row0 m picks) s h = 0:=by
  unfold pt xg row0
  rw [List.getD_eq_getElem?_getD,List.getElem?_append_left (by simp; omega),List.getElem?_replicate,if_pos (by omega)]; rfl
theorem row0_lf {m:Market} {picks:List UH} {h:Nat} (hh:h < 5):lf (row0 m picks) h = realH m picks h:=by
  unfold lf xg row0
  rw [List.getD_eq_getElem?_getD,List.getElem?_append_right (by simp),List.length_replicate,show 40 + h - 40 = h by omega,List.getElem?_map,List.getElem?_range hh]; rfl
theorem row0_flow {m:Market} (ok:MarketOk m) {picks:List UH}:FlowOk (Ds m) (realH m picks) (row0 m picks) where
  len:=by simp [row0]
  pos s h hs hh:=by rw [row0_pt hs hh]; exact Int.le_refl _
  left h hh:=by rw [row0_lf hh]; exact (realH_le ok).1
  sells s h hs hh hn:=absurd (row0_pt hs hh) hn
  all h hh:=by
    rw [row0_lf hh,Ib fun s hs=>row0_pt hs hh]; omega
theorem row0_sold {m:Market} {picks:List UH} {s:Nat} (hs:s < 8):Fv (row0 m picks) s = 0:=Ib fun h hh=>row0_pt hs hh
theorem hasOf_row0 {m:Market} (ok:MarketOk m) {picks:List UH}:hasOf m (row0 m picks) = (List.range m.houses.length).map (realH m picks):=by
  unfold hasOf
  refine List.map_congr_left fun h hh=>row0_lf ?_
  have:=List.mem_range.1 hh
  have:=Hp ok
  omega
theorem hasOf_len {m:Market} {xs:List Int}:(hasOf m xs).length = m.houses.length:=by simp [hasOf]
theorem hasOf_get {m:Market} {xs:List Int} {h:Nat} {z:Int} (hz:(hasOf m xs)[h]? = some z):h < m.houses.length∧z = lf xs h:=by
  unfold hasOf at hz
  rw [List.getElem?_map] at hz
  obtain ⟨a,ha,rfl⟩:=Option.map_eq_some_iff.1 hz
  obtain ⟨h1,h2⟩:=List.getElem?_eq_some_iff.1 ha
  simp only [List.length_range] at h1
  simp only [List.getElem_range] at h2
  subst h2; exact ⟨h1,rfl⟩
theorem hasOf_at {m:Market} {xs:List Int} {h:Nat} (hh:h < m.houses.length):(hasOf m xs)[h]? = some (lf xs h):=by
  unfold hasOf; rw [List.getElem?_map,List.getElem?_range hh]; rfl
theorem hasOf_set {m:Market} (ok:MarketOk m) {xs:List Int} {s h:Nat} {n:Int} (hl:xs.length = 45) (hs:s < 8) (hh:h < m.houses.length):(hasOf m xs).set h (lf xs h - n) = hasOf m (give xs s h n):=by
  have h5:=Hp ok
  apply List.ext_getElem?
  intro k
  rw [List.getElem?_set]
  split
  · rename_i e
    subst e
    rw [if_pos (by rw [hasOf_len]; exact hh),hasOf_at hh,Akh hl hs (by omega) (by omega),if_pos rfl]
  · rename_i e
    rcases Nat.lt_or_ge k m.houses.length with hk | hk
    · rw [hasOf_at hk,hasOf_at hk,Akh hl hs (by omega) (by omega),if_neg (by omega)]
    · rw [List.getElem?_eq_none (by rw [hasOf_len]; exact hk),List.getElem?_eq_none (by rw [hasOf_len]; exact hk)]
def sellersAt (m:Market) (s:Nat):List Int:=match m.sales[s]? with | some x=>x.sellers | none=>[]
def saleOf (m:Market) (xs:List Int) (s:Nat):Sale:=⟨Fv xs s,sellersAt m s⟩
def salesTo (m:Market) (xs:List Int) (i:Nat):List Sale:=(List.range i).map (saleOf m xs)
theorem salesTo_len {m:Market} {xs:List Int} {i:Nat}:(salesTo m xs i).length = i:=by simp [salesTo]
theorem salesTo_give {m:Market} {xs:List Int} {i h:Nat} {n:Int} (hl:xs.length = 45) (hi:i < 8) (hh:h < 5):salesTo m (give xs i h n) i = salesTo m xs i:=by
  unfold salesTo
  refine List.map_congr_left fun j hj=>?_
  have:=List.mem_range.1 hj
  unfold saleOf
  rw [Vq hl hi hh (by omega),if_neg (by omega)]
theorem salesTo_succ {m:Market} {xs:List Int} {i:Nat}:salesTo m xs (i + 1) = salesTo m xs i ++ [saleOf m xs i]:=by
  unfold salesTo; rw [List.range_succ,List.map_append]; rfl
/-- What is so of the parts that honest houses sold. -/
structure Hon (m:Market) (xs:List Int):Prop where
  flow:∃ cap,FlowOk (Ds m) cap xs∧∀ h:Nat,h < 5→cap h ≤ Eo m (h:Int)
  small:∀ s,s < 8→Fv xs s ≤ 1000000
theorem sales_fault {m:Market} {ss:List Sale} (hm:Ch m = 0) (hl:ss.length = m.sales.length) (h:∀ (i:Nat) (s s':Sale),m.sales[i]? = some s→ss[i]? = some s'→s'.sellers = s.sellers∧0 ≤ s'.grams∧s'.grams ≤ 1000000):Ch ⟨m.houses,m.marks,m.fields,ss⟩ = 0:=by
  unfold Ch at *
  simp only [Jr] at *
  obtain ⟨h1,h2,h3,h4⟩:=hm
  refine ⟨h1,h2,h3,?_⟩
  unfold Jb at *
  simp only
  rw [hl]
  split at h4
  · cases h4
  rename_i hn
  rw [if_neg hn,Fz]
  rw [Fz] at h4
  intro j hj
  have hx:m.sales[j]? = some m.sales[j]:=List.getElem?_eq_getElem hj
  have hy:ss[j]? = some ss[j]:=List.getElem?_eq_getElem (by omega)
  obtain ⟨e1,e2,e3⟩:=h j _ _ hx hy
  have h5:=h4 j hj
  unfold Iz at *
  rw [hx] at h5
  simp only [hy]
  simp only at h5
  rw [if_pos (Ge.2 ⟨e2,e3⟩),e1]
  split at h5
  · have key:∀ k,Gu ⟨m.houses,m.marks,m.fields,ss⟩ ss[j] k = Gu m m.sales[j] k:=fun k=>by unfold Gu; rw [e1]
    rw [show Gu ⟨m.houses,m.marks,m.fields,ss⟩ ss[j] = Gu m m.sales[j] from funext key]
    exact h5
  · cases h5
theorem sellers_at {m:Market} {i:Nat} {s:Sale} (h:m.sales[i]? = some s):sellersAt m i = s.sellers:=by unfold sellersAt; rw [h]
theorem hon_sells {m:Market} {ss:List Sale} (hl:ss.length = m.sales.length) (h:∀ (i:Nat) (s s':Sale),m.sales[i]? = some s→ss[i]? = some s'→s'.sellers = s.sellers):Ds ⟨m.houses,m.marks,m.fields,ss⟩ = Ds m:=by
  funext i k
  unfold Ds
  simp only
  cases h1:m.sales[i]? with
  | none =>
    have:ss[i]? = none:=List.getElem?_eq_none (by have:=List.getElem?_eq_none_iff.1 h1; omega)
    rw [this]
  | some s =>
    have hi:=(List.getElem?_eq_some_iff.1 h1).1
    have h2:ss[i]? = some ss[i]:=List.getElem?_eq_getElem (by omega)
    rw [h2]
    simp only
    unfold Gp
    rw [h i _ _ h1 h2]
theorem sold_none {m:Market} {cap:Nat→Int} {xs:List Int} (ok:FlowOk (Ds m) cap xs) {s:Nat} (hs:s < 8) (hn:m.sales.length ≤ s):Fv xs s = 0:=Ib fun h hh=>by
  by_cases e:pt xs s h = 0
  · exact e
  · have:=ok.sells s h hs hh e
    unfold Ds at this
    rw [List.getElem?_eq_none hn] at this; cases this
theorem hon_hall {m:Market} {xs:List Int} (H:Hon m xs) (T:Nat→Bool):Df 8 (fun s=>if T s then Fv xs s else 0) ≤ Df 5 (fun h=>if nbr (Ds m) T h then Eo m (h:Int) else 0):=by
  obtain ⟨cap,ok,hc⟩:=H.flow
  have h1:=Xc (gr:=Fv xs) ok (fun _ _=>rfl) T
  have h2:Df 5 (fun h=>if nbr (Ds m) T h then cap h else 0) ≤ Df 5 (fun h=>if nbr (Ds m) T h then Eo m (h:Int) else 0):=Of fun h hh=>by
    have:=hc h hh
    split <;> omega
  omega
def touchAt (m:Market) (set s:Nat):Bool:=(List.range 5).any fun h=>Ds m s h && Cu set h
def moreOf (m:Market) (xs:List Int) (set:Nat) (more:List UH) (s:Nat):Sale:=⟨if touchAt m set s then min 1000000 (Fv xs s + ((chooseN more s:Nat):Int)) else Fv xs s,sellersAt m s⟩
def cheM (m:Market) (xs:List Int) (set:Nat) (more:List UH):Market:=⟨m.houses,m.marks,m.fields,(List.range m.sales.length).map (moreOf m xs set more)⟩
theorem more_get {m:Market} {xs:List Int} {set i:Nat} {more:List UH} (h:i < m.sales.length):(cheM m xs set more).sales[i]? = some (moreOf m xs set more i):=by
  unfold cheM; simp only; rw [List.getElem?_map,List.getElem?_range h]; rfl
theorem more_le {m:Market} {xs:List Int} {set:Nat} {more:List UH} (H:Hon m xs) {s:Nat} (hs:s < 8):0 ≤ (moreOf m xs set more s).grams∧(moreOf m xs set more s).grams ≤ 1000000:=by
  obtain ⟨cap,ok,_⟩:=H.flow
  have h1:=sold_le ok hs
  have h2:=H.small s hs
  unfold moreOf
  simp only
  split <;> omega
theorem che_market {m:Market} {xs:List Int} {set:Nat} {more:List UH} (hm:Ch m = 0) (H:Hon m xs):Ch (cheM m xs set more) = 0:=by
  refine sales_fault hm (by simp) fun i s s' h1 h2=>?_
  have hi:=(List.getElem?_eq_some_iff.1 h1).1
  have hn:=(Qv hm).nsales
  have h3:=more_get (xs:=xs) (set:=set) (more:=more) hi
  unfold cheM at h3
  simp only at h3
  rw [h3] at h2
  cases h2
  exact ⟨sellers_at h1,more_le H (by omega)⟩
theorem che_enough {m:Market} {xs:List Int} {set:Nat} {more:List UH} (hm:Ch m = 0) (H:Hon m xs):Fk (cheM m xs set more) set = true:=by
  have hmk:=che_market (set:=set) (more:=more) hm H
  obtain ⟨cap,ok,_⟩:=H.flow
  have hn:=(Qv hm).nsales
  rw [← Zk (Qv hmk)]
  intro T
  have e1:Ds (cheM m xs set more) = Ds m:=hon_sells (by simp) fun i s s' h1 h2=>by
    have hi:=(List.getElem?_eq_some_iff.1 h1).1
    have h3:=more_get (xs:=xs) (set:=set) (more:=more) hi
    unfold cheM at h3
    simp only at h3
    rw [h3] at h2; cases h2; exact sellers_at h1
  have hg:∀ s,s < 8→Em (cheM m xs set more) s ≤ 1000000:=fun s hs=>by
    unfold Em
    split
    · rename_i x hx
      rcases Nat.lt_or_ge s m.sales.length with h | h
      · rw [more_get h] at hx; cases hx; exact (more_le H hs).2
      · rw [List.getElem?_eq_none (by unfold cheM; simp; exact h)] at hx; cases hx
    · omega
  have hcap:∀ h,0 ≤ Mp (cheM m xs set more) set h:=fun h=>by
    unfold Mp
    have:=Pl (Qv hmk) (h:Int)
    split <;> omega
  rw [e1]
  by_cases ht:∃ s,s < 8∧T s = true∧touchAt m set s = true
  · obtain ⟨s,hs,hT,ht⟩:=ht
    unfold touchAt at ht
    obtain ⟨h,hh,ht⟩:=List.any_eq_true.1 ht
    rw [Bool.and_eq_true] at ht
    have hh5:=List.mem_range.1 hh
    have h1:Df 8 (fun s=>if T s then Em (cheM m xs set more) s else 0) ≤ Df 8 (fun _=>1000000):=Of fun s hs=>by
      have:=hg s hs
      split <;> omega
    have h2:Df 8 (fun _=>(1000000:Int)) = 8000000:=by decide
    have h3:=Alr (n:=5) (f:=fun h=>if nbr (Ds m) T h then Mp (cheM m xs set more) set h else 0) (fun h _=>by have:=hcap h; split <;> omega) hh5
    rw [if_pos (Aco.2 ⟨s,hs,hT,ht.1⟩)] at h3
    have h4:Mp (cheM m xs set more) set h = 8000000:=by unfold Mp; rw [if_pos ht.2]
    omega
  · have h1:=hon_hall H T
    have e2:Df 8 (fun s=>if T s then Em (cheM m xs set more) s else 0) = Df 8 (fun s=>if T s then Fv xs s else 0):=Ev fun s hs=>by
      cases hT:T s with
      | false=>simp
      | true =>
        have h2:touchAt m set s = false:=by
          cases h3:touchAt m set s with
          | false=>rfl
          | true=>exact absurd ⟨s,hs,hT,h3⟩ ht
        simp only [if_true]
        unfold Em
        rcases Nat.lt_or_ge s m.sales.length with h | h
        · rw [more_get h]; unfold moreOf; simp only; rw [h2]; rfl
        · rw [List.getElem?_eq_none (by unfold cheM; simp; exact h),sold_none ok hs h]
    have e3:Df 5 (fun h=>if nbr (Ds m) T h then Eo m (h:Int) else 0) ≤ Df 5 (fun h=>if nbr (Ds m) T h then Mp (cheM m xs set more) set h else 0):=Of fun h hh=>by
      have:Eo m (h:Int) ≤ Mp (cheM m xs set more) set h:=by
        have h6:=Tt (Qv hm) (h:Int)
        have:Eo (cheM m xs set more) (h:Int) = Eo m (h:Int):=rfl
        unfold Mp
        split <;> omega
      split <;> omega
    omega
/-- Whoever sold false saffron: the fewest are no more,and if they are as many,what is known of each is so. -/
theorem che_law {m:Market} {xs:List Int} {set:Nat} {more:List UH} (hm:Ch m = 0) (H:Hon m xs) (hs:set < 1 <<< m.houses.length) :
    (Alc (cheM m xs set more)).length = m.houses.length∧Akj (cheM m xs set more) ≤ ((De set:Nat):Int)∧(¬ Akj (cheM m xs set more) < ((De set:Nat):Int)→∀ (k:Nat) (b:Int),(Alc (cheM m xs set more))[k]? = some b→(b = 1→Cu set k = true)∧(b = 2→Cu set k = false)):=by
  have hmk:=che_market (set:=set) (more:=more) hm H
  have ok:=Qv hmk
  have he:=che_enough (set:=set) (more:=more) hm H
  have hle:=che_le ok (x:=set) hs he
  unfold Akj Alc
  rw [if_pos hmk,if_pos hmk]
  refine ⟨by unfold Apv; simp; rfl,by omega,fun hlt k b hb=>?_⟩
  have hmem:set ∈ lv (cheM m xs set more) (Abl (cheM m xs set more)):=mem_lv.2 ⟨hs,by omega,he⟩
  unfold Apv at hb
  rw [List.getElem?_map] at hb
  obtain ⟨a,ha,rfl⟩:=Option.map_eq_some_iff.1 hb
  obtain ⟨_,h2⟩:=List.getElem?_eq_some_iff.1 ha
  simp only [List.getElem_range] at h2
  subst h2
  exact ⟨bel_1 hmem,bel_2 hmem⟩
end Go.Proofs.YtoefdnbaklajeaaDoor

namespace Go.Proofs.YtoefdnbaklajeaaDoor
open Go
set_option maxRecDepth 100000 in
theorem c_choose {mn:Bool} {X:Frame→List Frame→Ro→Own→Cy→Prop} {ρ:Ro} {σ:Own} {picks:List UH} {vk:Value} {k:Nat} (rk:Val ρ vk picks):CallsH (CX mn X) 30 #[vk,(iV ((k:Int)))] ρ σ (fun w ρ' σ'=>ρ' = ρ∧σ' = σ∧w = (iV (((chooseN picks k:Nat):Int)))):=by
 refine Bh (n:=14) (args:=[vk,(iV ((k:Int)))]) [4] Tryd.func30 rfl rfl rfl rfl fun Q hret hnor=>?_
 refine w_q rfl rfl fun K1 k1=>?_
 refine l_A (iV (0)) rfl rfl ?_
 apply Ac
 apply k1
 refine Ai fun K2 k2=>?_
 refine w_q rfl rfl fun K3 k3=>?_
 refine l_M (iV ((k:Int))) rfl rfl ?_
 refine l_M vk rfl rfl ?_
 have g4:=Val.len rk
 refine Aa rfl (Ce (el:=68) Tryd.underlying55 rfl rk) ?_
 refine Aa rfl (Da (p:=(k:Int)) (q:=((picks.length:Nat):Int)) rfl rfl) ?_
 apply Ac
 apply k3
 refine As (t:=decide ((k:Int) < ((picks.length:Nat):Int))) rfl (fun b5=>?_) (fun b5=>?_)
 ·have q5:=of_decide_eq_true b5
  refine w_q rfl rfl fun K6 k6=>?_
  refine l_M vk rfl rfl ?_
  refine l_M (iV ((k:Int))) rfl rfl ?_
  obtain ⟨a8,ha8⟩:=Ed (xs:=picks) (i:=k) (by omega)
  refine Ak rfl (Ci k Tryd.underlying55 ty68 rfl rk (q:=(k:Int)) rfl rfl ha8) fun v7 r7=>?_
  have g9:=a8.lt
  refine Aa rfl (y_load_uh ty68 rfl r7) ?_
  refine Aa rfl (Abu (p:=((a8.n:Nat):Int)) (z:=((a8.n:Nat):Int)) Tryd.underlying68 Tryd.underlying3 rfl (Bo rfl (by omega) (by omega))) ?_
  refine l_A (iV (((a8.n:Nat):Int))) rfl rfl ?_
  apply Ac
  apply k6
  refine Aq ?_
  refine hret _ _ _ ?_
  refine ⟨rfl,rfl,Eq.trans (b:=(iV (((a8.n:Nat):Int)))) rfl ?_⟩
  rw [chooseN_at ha8]
 have q5:=of_decide_eq_false b5
 refine Al ?_
 apply k2
 refine w_q rfl rfl fun K10 k10=>?_
 refine l_A (iV (0)) rfl rfl ?_
 apply Ac
 apply k10
 refine Aq ?_
 refine hret _ _ _ ?_
 refine ⟨rfl,rfl,Eq.trans (b:=(iV (0))) rfl ?_⟩
 rw [chooseN_out (by omega)]; rfl
set_option maxRecDepth 100000 in
theorem c_one {mn:Bool} {X:Frame→List Frame→Ro→Own→Cy→Prop} {ρ:Ro} {σ:Own} {x:Span} {vx:Value} {b:Nat} (rx:Val ρ vx x) (hx:0 ≤ x.low∧x.low ≤ x.high∧x.high ≤ 1000000) (hb:b < 65536):CallsH (CX mn X) 35 #[vx,(iV ((b:Int)))] ρ σ (fun w ρ' σ'=>ρ' = ρ∧σ' = σ∧w = (iV (oneI x b))):=by
 have ht1:=Int.tmod_nonneg (x.high - x.low + 1) (show (0:Int) ≤ (b:Int) by omega)
 have ht2:=Int.tmod_lt_of_pos (b:Int) (show 0 < x.high - x.low + 1 by omega)
 refine Bh (n:=16) (args:=[vx,(iV ((b:Int)))]) [4] Tryd.func35 rfl rfl rfl rfl fun Q hret hnor=>?_
 refine w_q rfl rfl fun K1 k1=>?_
 refine Ae rfl (Eb (v:=vx) rfl fun k2=>?_)
 refine Bb (a:=x) rx fun ρ2 l2 r2=>?_
 replace rx:=Asa l2 rx
 refine l_A (iV (0)) rfl rfl ?_
 apply Ac
 apply k1
 refine Ai fun K3 k3=>?_
 refine Dc [0,1,2,3,4,5,6,7,8,9,10,11] (by kernel_rfl) rfl rfl ?_
 refine Cd (i:=0) [o1,o0,o0,o0,o0,o0,o0,o0,o0,o0,o0,o0] rfl (by kernel_rfl) rfl Ary rfl (Ay Span.f_low Tryd.underlying65 rfl rfl ty3 (by decide) rfl r2) fun v4 r4=>?_
 have ⟨g5a,g5b⟩:=At.rng r4
 refine Be (i:=1) [o1,o1,o0,o0,o0,o0,o0,o0,o0,o0,o0,o0] rfl (by kernel_rfl) rfl Ary rfl (Bc ty3 rfl r4) ?_
 refine Be (i:=2) [o1,o1,o1,o0,o0,o0,o0,o0,o0,o0,o0,o0] rfl (by kernel_rfl) rfl Ary rfl (Ah (v:=(iV ((b:Int)))) rfl) ?_
 refine Cd (i:=3) [o1,o1,o1,o1,o0,o0,o0,o0,o0,o0,o0,o0] rfl (by kernel_rfl) rfl Ary rfl (Ay Span.f_high Tryd.underlying65 rfl rfl ty3 (by decide) rfl r2) fun v6 r6=>?_
 have ⟨g7a,g7b⟩:=At.rng r6
 refine Be (i:=4) [o1,o1,o1,o1,o1,o0,o0,o0,o0,o0,o0,o0] rfl (by kernel_rfl) rfl Ary rfl (Bc ty3 rfl r6) ?_
 refine Hl (i:=5) [o1,o1,o1,o1,o1,o1,o0,o0,o0,o0,o0,o0] rfl (by kernel_rfl) rfl Ary rfl (Ay Span.f_low Tryd.underlying65 rfl rfl ty3 (by decide) rfl r2) fun v8 r8=>?_
 have ⟨g9a,g9b⟩:=At.rng r8
 refine Bg (i:=6) [o1,o1,o1,o1,o1,o1,o1,o0,o0,o0,o0,o0] rfl (by kernel_rfl) rfl Ary rfl (Bc ty3 rfl r8) ?_
 refine Bg (i:=7) [o1,o1,o1,o1,o1,o1,o1,o1,o0,o0,o0,o0] rfl (by kernel_rfl) rfl Ary rfl (Oq (p:=x.high) (q:=x.low) rfl rfl (z:=(x.high - x.low)) (Bo (by omega) (by omega) (by omega))) ?_
 refine Bg (i:=8) Aoq rfl (by kernel_rfl) rfl Ary rfl (Br (p:=(x.high - x.low)) (q:=1) rfl rfl (z:=((x.high - x.low) + 1)) (Bo (by omega) (by omega) (by omega))) ?_
 refine Bg (i:=9) Amj rfl (by kernel_rfl) rfl Ary rfl (y_rem (p:=(b:Int)) (q:=((x.high - x.low) + 1)) rfl rfl (by omega) (z:=(((b:Int)).tmod (((x.high - x.low) + 1)))) rfl) ?_
 refine Bg (i:=10) zZ0 rfl (by kernel_rfl) rfl Ary rfl (Br (p:=x.low) (q:=(((b:Int)).tmod (((x.high - x.low) + 1)))) rfl rfl (z:=(x.low + (((b:Int)).tmod (((x.high - x.low) + 1))))) (Bo (by omega) (by omega) (by omega))) ?_
 refine Bg (i:=11) zZ1 rfl (by kernel_rfl) rfl Ary rfl (Cp (v:=(iV ((x.low + (((b:Int)).tmod (((x.high - x.low) + 1))))))) rfl) ?_
 refine Ec rfl ?_
 apply k3
 refine Aj (Arw l2) ?_
 refine Aq ?_
 refine hret _ _ _ ?_
 refine ⟨rfl,rfl,Eq.trans (b:=(iV ((x.low + (((b:Int)).tmod (((x.high - x.low) + 1))))))) rfl ?_⟩
 unfold oneI; rw [Int.tmod_eq_emod_of_nonneg (by omega)]
end Go.Proofs.YtoefdnbaklajeaaDoor

namespace Go.Proofs.YtoefdnbaklajeaaDoor
open Go
theorem min3_b {a b c:Int} (ha:0 ≤ a) (hb:0 ≤ b) (hc:0 ≤ c):0 ≤ min (min a b) c∧min (min a b) c ≤ a∧min (min a b) c ≤ c:=by
 have h1:=Int.min_le_left a b
 have h2:0 ≤ min a b:=Int.le_min.2 ⟨ha,hb⟩
 generalize min a b = d at *
 omega
theorem hon_left {m:Market} {picks:List UH} {xs:List Int} {h:Nat} (ok:MarketOk m) (F:FlowOk (Ds m) (realH m picks) xs) (hh:h < 5):0 ≤ lf xs h∧lf xs h ≤ 6000000:=by
 have h1:=F.left h hh
 have h2:=F.all h hh
 have h3:0 ≤ Df 8 (fun s=>pt xs s h):=Sb fun s hs=>F.pos s h hs hh
 have h4:=(realTo_small ok (picks:=picks) (h:=h) (Nat.le_refl _)).2
 have:realH m picks h ≤ 6000000:=h4
 omega
set_option maxRecDepth 100000 in
theorem c_honest {mn:Bool} {X:Frame→List Frame→Ro→Own→Cy→Prop} {ρ:Ro} {σ:Own} {m:Market} {vm vk:Value} {picks:List UH} (rm:Val ρ vm m) (rk:Val ρ vk picks) (ok:MarketOk m):CallsH (CX mn X) 29 #[vm,vk] ρ σ (fun w ρ' σ'=>Ro.le ρ ρ'∧∃ vh vmk vf vs gr xs,w = .agg #[vh,vmk,vf,vs]∧σ' = gr ++ σ∧Val ρ' vh m.houses∧Val ρ' vmk m.marks∧Val ρ' vf m.fields∧Grow ρ' 59 vs (salesTo m xs m.sales.length) gr∧Hon m xs):=by
 have hn8:=ok.nsales
 have hh5:=Hp ok
 have hn6:=ok.nfields
 refine Mc (n:=123) (args:=[vm,vk]) [.cell 4 26] Tryd.func29 rfl rfl rfl rfl fun Q hret hnor=>?_
 refine w_q rfl rfl fun K1 k1=>?_
 refine Ae rfl (Eb (v:=vm) rfl fun k2=>?_)
 refine Bb (a:=m) rm fun ρ2 l2 r2=>?_
 replace rm:=Asa l2 rm
 replace rk:=Asa l2 rk
 refine Ae rfl (Ct Aoj fun k3=>?_)
 apply Ac
 apply k1
 refine w_q rfl rfl fun K4 k4=>?_
 refine Ak rfl (Ax Lj rfl r2) fun v5 r5=>?_
 refine Ae rfl (Ct Aoj fun k6=>?_)
 obtain ⟨c7_0,c7_1,c7_2,c7_3,e7_,i7_1,i7_2,i7_3,i7_4⟩:=Market.open_ r5
 have e7_c:v5.cells = [c7_0,c7_1,c7_2,c7_3].toArray:=by rw [e7_]; rfl
 refine Cx rfl (Ld (i:=0) (vs:=[c7_0,c7_1,c7_2,c7_3]) (c':=[c7_0,c7_1,c7_2,c7_3]) ⟨_,Ab Tryd.typeInfo26,rfl⟩ rfl rfl e7_c rfl (Xv ⟨(Val.single_l i7_1),(Val.single_l i7_2),(Val.single_l i7_3),(Val.single_l i7_4),trivial⟩) rfl (Nat.le_of_ble_eq_true rfl) rfl ?_)
 apply Ac
 apply k4
 refine w_q rfl rfl fun K8 k8=>?_
 refine Aa rfl (Cb Tryd.underlying26 rfl rfl ⟨_,Ab Tryd.typeInfo24,rfl⟩ (by decide) rfl rfl) ?_
 refine Cx rfl (Cz (j:=0) (v:=(.slice none 0 0)) ⟨_,Ab Tryd.typeInfo24,rfl⟩ rfl rfl rfl rfl (Nat.le_of_ble_eq_true rfl) ?_)
 apply Ac
 apply k8
 refine w_q rfl rfl fun K9 k9=>?_
 refine l_A (.slice none 0 0) rfl rfl ?_
 apply Ac
 apply k9
 refine Ai fun K10 k10=>?_
 refine w_q rfl rfl fun K11 k11=>?_
 refine l_A (iV (0)) rfl rfl ?_
 apply Ac
 apply k11
 refine Ao ?_
 refine Cc (fun mm ee dd ρ' σ'=>∃ (h:Nat) (ov12_6:Value) (og12_6:Own),(m.houses.length - h) = mm∧[] = dd∧Ro.le ρ2 ρ'∧(og12_6 ++ ((k6,Res.obj (Obj.cells #[c7_0,c7_1,c7_2,(.slice none 0 0)] 26 (0,0))) :: ((k3,Res.obj (Obj.cells #[(.slice none 0 0),(.slice none 0 0),(.slice none 0 0),(.slice none 0 0)] 26 (0,0))) :: σ))) = σ'∧ee 1 = vk∧ee 2 = (.pointer (some ⟨k2,0,none⟩))∧ee 4 = (.pointer (some ⟨k3,0,none⟩))∧ee 5 = (.pointer (some ⟨k6,0,none⟩))∧ee 6 = ov12_6∧ee 7 = (iV ((h:Int)))∧(h ≤ m.houses.length)∧Grow ρ' 3 ov12_6 ((List.range h).map (realH m picks)) og12_6∧True) (m:=_) ⟨0,(.slice none 0 0),[],rfl,rfl,Ary,rfl,rfl,rfl,rfl,rfl,rfl,rfl,(Nat.zero_le _),Hn,trivial⟩ ?_
 rintro m12 e12 _ ρ12 _ ⟨h,ov12_6,og12_6,rfl,rfl,l12,rfl,h12_1,h12_2,h12_4,h12_5,h12_6,h12_7,p12_0,OG12_6,_⟩
 replace rk:=Asa l12 rk
 replace r2:=Arv l12 r2
 replace i7_1:=Asa l12 i7_1
 replace i7_2:=Asa l12 i7_2
 replace i7_3:=Asa l12 i7_3
 refine Ai fun K13 k13=>?_
 refine w_q rfl rfl fun K14 k14=>?_
 refine Aa rfl (Ah (v:=(iV ((h:Int)))) h12_7) ?_
 refine Ak rfl (Ay Market.f_houses Tryd.underlying26 rfl rfl Hu (by decide) h12_2 r2) fun v15 r15=>?_
 refine Ak rfl (Ax Hu rfl r15) fun v16 r16=>?_
 have g17:=Val.len r16
 refine Aa rfl (Ce (el:=9) Tryd.underlying22 rfl r16) ?_
 refine Aa rfl (Da (p:=(h:Int)) (q:=((m.houses.length:Nat):Int)) rfl rfl) ?_
 apply Ac
 apply k14
 refine As (t:=decide ((h:Int) < ((m.houses.length:Nat):Int))) rfl (fun b18=>?_) (fun b18=>?_)
 ·have q18:=of_decide_eq_true b18
  refine Al ?_
  apply k13
  refine Ai fun K19 k19=>?_
  refine Ao ?_
  refine w_q rfl rfl fun K20 k20=>?_
  refine l_A (iV (0)) rfl rfl ?_
  apply Ac
  apply k20
  refine Ai fun K21 k21=>?_
  refine w_q rfl rfl fun K22 k22=>?_
  refine l_A (iV (0)) rfl rfl ?_
  apply Ac
  apply k22
  refine Ao ?_
  refine Cc (fun mm ee dd ρ' σ'=>∃ (i:Nat) (n:Int),(m.fields.length - i) = mm∧[] = dd∧ρ12 = ρ'∧(og12_6 ++ ((k6,Res.obj (Obj.cells #[c7_0,c7_1,c7_2,(.slice none 0 0)] 26 (0,0))) :: ((k3,Res.obj (Obj.cells #[(.slice none 0 0),(.slice none 0 0),(.slice none 0 0),(.slice none 0 0)] 26 (0,0))) :: σ))) = σ'∧ee 1 = vk∧ee 2 = (.pointer (some ⟨k2,0,none⟩))∧ee 4 = (.pointer (some ⟨k3,0,none⟩))∧ee 5 = (.pointer (some ⟨k6,0,none⟩))∧ee 6 = ov12_6∧ee 7 = (iV ((h:Int)))∧ee 8 = (iV (n))∧ee 9 = (iV ((i:Int)))∧(i ≤ m.fields.length)∧(n = realTo m picks h i)∧True) (m:=_) ⟨0,0,rfl,rfl,rfl,rfl,h12_1,h12_2,h12_4,h12_5,h12_6,h12_7,rfl,rfl,(Nat.zero_le _),(by simp [realTo]),trivial⟩ ?_
  rintro m23 e23 _ _ _ ⟨i,n,rfl,rfl,rfl,rfl,h23_1,h23_2,h23_4,h23_5,h23_6,h23_7,h23_8,h23_9,p23_0,p23_1,_⟩
  have hrt:=realTo_small ok (picks:=picks) (h:=h) p23_0
  refine Ai fun K24 k24=>?_
  refine w_q rfl rfl fun K25 k25=>?_
  refine Aa rfl (Ah (v:=(iV ((i:Int)))) h23_9) ?_
  refine Ak rfl (Ay Market.f_fields Tryd.underlying26 rfl rfl Se (by decide) h23_2 r2) fun v26 r26=>?_
  refine Ak rfl (Ax Se rfl r26) fun v27 r27=>?_
  have g28:=Val.len r27
  refine Aa rfl (Ce (el:=67) Tryd.underlying23 rfl r27) ?_
  refine Aa rfl (Da (p:=(i:Int)) (q:=((m.fields.length:Nat):Int)) rfl rfl) ?_
  apply Ac
  apply k25
  refine As (t:=decide ((i:Int) < ((m.fields.length:Nat):Int))) rfl (fun b29=>?_) (fun b29=>?_)
  ·have q29:=of_decide_eq_true b29
   refine Al ?_
   apply k24
   refine Ai fun K30 k30=>?_
   refine Ao ?_
   refine w_q rfl rfl fun K31 k31=>?_
   refine Ak rfl (Ay Market.f_fields Tryd.underlying26 rfl rfl Se (by decide) h23_2 r2) fun v32 r32=>?_
   refine Ak rfl (Ax Se rfl r32) fun v33 r33=>?_
   refine Aa rfl (Ah (v:=(iV ((i:Int)))) h23_9) ?_
   obtain ⟨a35,ha35⟩:=Ed (xs:=m.fields) (i:=i) (by first | omega | (rw [hasOf_len]; omega))
   have gf_a35:=(ok.field _ _ ha35).2.2.2.1
   refine Ak rfl (Ci i Tryd.underlying23 Ln rfl r33 (q:=(i:Int)) rfl rfl ha35) fun v34 r34=>?_
   refine Ak rfl (Ay FField.f_house Tryd.underlying67 rfl rfl ty3 (by decide) rfl r34) fun v36 r36=>?_
   have ⟨g37a,g37b⟩:=At.rng r36
   refine Aa rfl (Bc ty3 rfl r36) ?_
   refine Aa rfl (Ah (v:=(iV ((h:Int)))) h23_7) ?_
   refine Aa rfl (Ek (p:=a35.house) (q:=(h:Int)) rfl rfl) ?_
   apply Ac
   apply k31
   refine As (t:=a35.house == (h:Int)) rfl (fun b38=>?_) (fun b38=>?_)
   ·have q38:=Jo b38
    refine Dc [0,1,2,3,4,5,6,7,8,9,10,11,12] (by kernel_rfl) rfl rfl ?_
    refine Be (i:=0) [o1,o0,o0,o0,o0,o0,o0,o0,o0,o0,o0,o0,o0] rfl (by kernel_rfl) rfl Ary rfl (Ah (v:=(iV (n))) h23_8) ?_
    refine Cd (i:=1) [o1,o1,o0,o0,o0,o0,o0,o0,o0,o0,o0,o0,o0] rfl (by kernel_rfl) rfl Ary rfl (Ay Market.f_fields Tryd.underlying26 rfl rfl Se (by decide) h23_2 r2) fun v39 r39=>?_
    refine Cd (i:=2) [o1,o1,o1,o0,o0,o0,o0,o0,o0,o0,o0,o0,o0] rfl (by kernel_rfl) rfl Ary rfl (Ax Se rfl r39) fun v40 r40=>?_
    refine Be (i:=3) [o1,o1,o1,o1,o0,o0,o0,o0,o0,o0,o0,o0,o0] rfl (by kernel_rfl) rfl Ary rfl (Ah (v:=(iV ((i:Int)))) h23_9) ?_
    refine Cd (i:=4) [o1,o1,o1,o1,o1,o0,o0,o0,o0,o0,o0,o0,o0] rfl (by kernel_rfl) rfl Ary rfl (Ci i Tryd.underlying23 Ln rfl r40 (q:=(i:Int)) rfl rfl ha35) fun v41 r41=>?_
    refine Cd (i:=5) [o1,o1,o1,o1,o1,o1,o0,o0,o0,o0,o0,o0,o0] rfl (by kernel_rfl) rfl Ary rfl (Ay FField.f_grows Tryd.underlying67 rfl rfl Mx (by decide) rfl r41) fun v42 r42=>?_
    refine Cd (i:=6) [o1,o1,o1,o1,o1,o1,o1,o0,o0,o0,o0,o0,o0] rfl (by kernel_rfl) rfl Ary rfl (Ax Mx rfl r42) fun v43 r43=>?_
    refine Be (i:=7) [o1,o1,o1,o1,o1,o1,o1,o1,o0,o0,o0,o0,o0] rfl (by kernel_rfl) rfl Ary rfl (Ah (v:=vk) h23_1) ?_
    refine Bg (i:=8) [o1,o1,o1,o1,o1,o1,o1,o1,o1,o0,o0,o0,o0] rfl (by kernel_rfl) rfl Ary rfl (Ah (v:=(iV ((i:Int)))) h23_9) ?_
    have hch44:=chooseN_lt (l:=picks) (k:=i)
    refine Dj (i:=9) [o1,o1,o1,o1,o1,o1,o1,o1,o1,o1,o0,o0,o0] rfl (by kernel_rfl) rfl rfl (Bn (vs:=[vk,(iV ((i:Int)))]) (v:=(iV ((((chooseN picks i):Nat):Int)))) (c_choose rk) Tryd.func30 rfl rfl ⟨rfl,rfl,trivial⟩ ⟨Ary,?_⟩)
    have ho45:=one_in (x:=a35.grows) (b:=(chooseN picks i)) (by omega)
    refine Dj (i:=10) [o1,o1,o1,o1,o1,o1,o1,o1,o1,o1,o1,o0,o0] rfl (by kernel_rfl) rfl rfl (Bn (vs:=[v43,(iV ((((chooseN picks i):Nat):Int)))]) (v:=(iV ((oneI a35.grows ((chooseN picks i)))))) (c_one r43 ⟨by omega,by omega,by omega⟩ (by omega)) Tryd.func35 rfl rfl ⟨rfl,rfl,trivial⟩ ⟨Ary,?_⟩)
    refine Bg (i:=11) [o1,o1,o1,o1,o1,o1,o1,o1,o1,o1,o1,o1,o0] rfl (by kernel_rfl) rfl Ary rfl (Br (p:=n) (q:=(oneI a35.grows ((chooseN picks i)))) rfl rfl (z:=(n + (oneI a35.grows ((chooseN picks i))))) (Bo (by rfl) (by omega) (by omega))) ?_
    refine Bg (i:=12) [o1,o1,o1,o1,o1,o1,o1,o1,o1,o1,o1,o1,o1] rfl (by kernel_rfl) rfl Ary rfl (Cp (v:=(iV ((n + (oneI a35.grows ((chooseN picks i))))))) rfl) ?_
    refine Ec rfl ?_
    apply k30
    refine Ag rfl rfl ?_
    refine Aa rfl (Ah (v:=(iV ((i:Int)))) h23_9) ?_
    refine Aa rfl (Br (p:=(i:Int)) (q:=1) rfl rfl (z:=(((i + 1):Nat):Int)) (Bo (by first | rfl | omega | (push_cast; rfl)) (by omega) (by omega))) ?_
    refine l_A (iV ((((i + 1):Nat):Int))) rfl rfl ?_
    apply Ac
    refine ⟨_,?_,((i + 1)),((n + (oneI a35.grows ((chooseN picks i))))),rfl,rfl,rfl,rfl,h23_1,h23_2,h23_4,h23_5,h23_6,h23_7,rfl,rfl,(by omega),(by rw [realTo_succ,← p23_1,realAt,ha35]; simp only; rw [if_pos q38]),trivial⟩
    omega
   have q38:=La b38
   refine Al ?_
   apply k30
   refine Ag rfl rfl ?_
   refine Aa rfl (Ah (v:=(iV ((i:Int)))) h23_9) ?_
   refine Aa rfl (Br (p:=(i:Int)) (q:=1) rfl rfl (z:=(((i + 1):Nat):Int)) (Bo (by first | rfl | omega | (push_cast; rfl)) (by omega) (by omega))) ?_
   refine l_A (iV ((((i + 1):Nat):Int))) rfl rfl ?_
   apply Ac
   refine ⟨_,?_,((i + 1)),(n),rfl,rfl,rfl,rfl,h23_1,h23_2,h23_4,h23_5,h23_6,h23_7,h23_8,rfl,(by omega),(by rw [realTo_succ,← p23_1,realAt,ha35]; simp only; rw [if_neg q38]; omega),trivial⟩
   omega
  have q29:=of_decide_eq_false b29
  refine Bx ?_
  apply k21
  refine Ag rfl rfl ?_
  refine Aa rfl (Ah (v:=ov12_6) h23_6) ?_
  refine Aa rfl (Ah (v:=(iV (n))) h23_8) ?_
  refine Ae rfl (Bi (α:=Int) (xs:=[n]) (vs:=[(iV (n))]) Tryd.underlying30 ty3 zr3 rfl (by decide) (Dl (os:=[.tmp 52]) ⟨rfl,trivial⟩) ⟨(Cv.2 ⟨rfl,by constructor <;> omega⟩),trivial⟩ rfl (by decide) fun k46 cs46 R46=>?_)
  have G46:Grow ρ12 3 (.slice (some ⟨k46,0,none⟩) 1 1) ([n]:List Int) [(k46,Res.obj (.cells cs46.toArray 3 (0,0)))]:=Bs R46 rfl (by decide)
  refine Ca G46 fun ρ48 l48 r48=>?_
  replace rk:=Asa l48 rk
  replace r2:=Arv l48 r2
  replace i7_1:=Asa l48 i7_1
  replace i7_2:=Asa l48 i7_2
  replace i7_3:=Asa l48 i7_3
  replace OG12_6:=Grow.mono l48 OG12_6
  refine Ae rfl (Fx (σ:=((k6,Res.obj (Obj.cells #[c7_0,c7_1,c7_2,(.slice none 0 0)] 26 (0,0))) :: ((k3,Res.obj (Obj.cells #[(.slice none 0 0),(.slice none 0 0),(.slice none 0 0),(.slice none 0 0)] 26 (0,0))) :: σ))) (gr:=og12_6) (xs:=(List.range h).map (realH m picks)) (ys:=([n]:List Int)) Tryd.underlying30 Tryd.underlying30 (Ab Tryd.typeInfo3) rfl (Nat.le_of_ble_eq_true rfl) rfl rfl rfl rfl OG12_6 r48 (by simp only [List.length_append,List.length_map,List.length_range,List.length_cons,List.length_nil,salesTo_len,hasOf_len] at *; omega) fun v47 gr47 G47=>?_)
  refine l_A v47 rfl rfl ?_
  apply Ac
  apply k19
  refine Ag rfl rfl ?_
  refine Aa rfl (Ah (v:=(iV ((h:Int)))) h23_7) ?_
  refine Aa rfl (Br (p:=(h:Int)) (q:=1) rfl rfl (z:=(((h + 1):Nat):Int)) (Bo (by first | rfl | omega | (push_cast; rfl)) (by omega) (by omega))) ?_
  refine l_A (iV ((((h + 1):Nat):Int))) rfl rfl ?_
  apply Ac
  refine ⟨_,?_,((h + 1)),v47,gr47,rfl,rfl,(Arz l12 l48),rfl,h23_1,h23_2,h23_4,h23_5,rfl,rfl,(by omega),(Ga (by rw [List.range_succ,List.map_append]; congr 1; rw [List.map_cons,List.map_nil,realH,← show i = m.fields.length by omega,← p23_1]) G47),trivial⟩
  omega
 have q18:=of_decide_eq_false b18
 refine Bx ?_
 apply k10
 refine Ai fun K49 k49=>?_
 refine w_q rfl rfl fun K50 k50=>?_
 refine l_A (iV (0)) rfl rfl ?_
 apply Ac
 apply k50
 refine Ao ?_
 have hh:h = m.houses.length:=by omega
 have hf0:=row0_flow ok (picks:=picks)
 refine Cc (fun mm ee dd ρ' σ'=>∃ (i:Nat) (xs:List Int) (ov51_5c3:Value) (og51_5c3:Own) (ov51_6:Value) (og51_6:Own),(m.sales.length - i) = mm∧[] = dd∧Ro.le ρ12 ρ'∧(og51_5c3 ++ (og51_6 ++ ((k6,Res.obj (Obj.cells #[c7_0,c7_1,c7_2,ov51_5c3] 26 (0,0))) :: ((k3,Res.obj (Obj.cells #[(.slice none 0 0),(.slice none 0 0),(.slice none 0 0),(.slice none 0 0)] 26 (0,0))) :: σ)))) = σ'∧ee 1 = vk∧ee 2 = (.pointer (some ⟨k2,0,none⟩))∧ee 4 = (.pointer (some ⟨k3,0,none⟩))∧ee 5 = (.pointer (some ⟨k6,0,none⟩))∧ee 6 = ov51_6∧ee 10 = (iV ((i:Int)))∧(i ≤ m.sales.length)∧(FlowOk (Ds m) (realH m picks) xs)∧(∀ s,s < 8→Fv xs s ≤ 1000000)∧(∀ s,i ≤ s→s < 8→Fv xs s = 0)∧Grow ρ' 59 ov51_5c3 (salesTo m xs i) og51_5c3∧Grow ρ' 3 ov51_6 (hasOf m xs) og51_6∧True) (m:=_) ⟨0,(row0 m picks),(.slice none 0 0),[],ov12_6,og12_6,rfl,rfl,Ary,rfl,h12_1,h12_2,h12_4,h12_5,h12_6,rfl,(Nat.zero_le _),hf0,(fun s hs=>by rw [row0_sold hs]; omega),(fun s _ hs=>row0_sold hs),(Ga (by simp [salesTo]) Hn),(Ga (by rw [hh,hasOf_row0 ok]) OG12_6),trivial⟩ ?_
 rintro m51 e51 _ ρ51 _ ⟨i,xs,ov51_5c3,og51_5c3,ov51_6,og51_6,rfl,rfl,l51,rfl,h51_1,h51_2,h51_4,h51_5,h51_6,h51_10,p51_0,p51_1,p51_2,p51_3,OG51_5c3,OG51_6,_⟩
 replace rk:=Asa l51 rk
 replace r2:=Arv l51 r2
 replace i7_1:=Asa l51 i7_1
 replace i7_2:=Asa l51 i7_2
 replace i7_3:=Asa l51 i7_3
 refine Ai fun K52 k52=>?_
 refine w_q rfl rfl fun K53 k53=>?_
 refine Aa rfl (Ah (v:=(iV ((i:Int)))) h51_10) ?_
 refine Ak rfl (Ay Market.f_sales Tryd.underlying26 rfl rfl Pq (by decide) h51_2 r2) fun v54 r54=>?_
 refine Ak rfl (Ax Pq rfl r54) fun v55 r55=>?_
 have g56:=Val.len r55
 refine Aa rfl (Ce (el:=59) Tryd.underlying24 rfl r55) ?_
 refine Aa rfl (Da (p:=(i:Int)) (q:=((m.sales.length:Nat):Int)) rfl rfl) ?_
 apply Ac
 apply k53
 refine As (t:=decide ((i:Int) < ((m.sales.length:Nat):Int))) rfl (fun b57=>?_) (fun b57=>?_)
 ·have q57:=of_decide_eq_true b57
  refine Al ?_
  apply k52
  refine Ai fun K58 k58=>?_
  refine Ao ?_
  refine w_q rfl rfl fun K59 k59=>?_
  refine Ak rfl (Ay Market.f_sales Tryd.underlying26 rfl rfl Pq (by decide) h51_2 r2) fun v60 r60=>?_
  refine Ak rfl (Ax Pq rfl r60) fun v61 r61=>?_
  refine Aa rfl (Ah (v:=(iV ((i:Int)))) h51_10) ?_
  obtain ⟨a63,ha63⟩:=Ed (xs:=m.sales) (i:=i) (by first | omega | (rw [hasOf_len]; omega))
  have gs_a63:=ok.sale _ _ ha63
  refine Ak rfl (Ci i Tryd.underlying24 Su rfl r61 (q:=(i:Int)) rfl rfl ha63) fun v62 r62=>?_
  refine Ak rfl (Ay Sale.f_sellers Tryd.underlying59 rfl rfl Vg (by decide) rfl r62) fun v64 r64=>?_
  refine Ak rfl (Ax Vg rfl r64) fun v65 r65=>?_
  have r66:Val ρ51 (.agg #[(iV (0)),v65]) (⟨0,a63.sellers⟩:Sale):=Sale.shut (x:=(⟨0,a63.sellers⟩:Sale)) (show I64 (0) from by constructor <;> omega) r65
  refine Aa rfl (Dm (ns:=[1,1]) (vs:=[(1,v65)]) (zc:=Ags) (cs:=[(iV (0)),v65]) Tryd.underlying59 Aeo rfl ⟨⟨_,Ab Tryd.typeInfo3,rfl⟩,⟨_,Ab Tryd.typeInfo30,rfl⟩,trivial⟩ (EvB.map ⟨⟨rfl,rfl⟩,trivial⟩) ((Bd (cs:=[v65]) (Val.cells_l r65) rfl (Nat.le_of_ble_eq_true rfl)).trans rfl)) ?_
  refine Ae rfl (Ct Aeo fun k67=>?_)
  refine Cx rfl (Ld (i:=0) (vs:=[(iV (0)),v65]) (c':=[(iV (0)),v65]) ⟨_,Ab Tryd.typeInfo59,rfl⟩ rfl rfl rfl rfl (Xv ⟨rfl,(Val.single_l r65),trivial⟩) rfl (Nat.le_of_ble_eq_true rfl) rfl ?_)
  apply Ac
  apply k59
  refine Ai fun K68 k68=>?_
  refine w_q rfl rfl fun K69 k69=>?_
  refine l_A (iV (0)) rfl rfl ?_
  apply Ac
  apply k69
  refine Ao ?_
  refine Aj (σ':=((k3,Res.obj (Obj.cells #[(.slice none 0 0),(.slice none 0 0),(.slice none 0 0),(.slice none 0 0)] 26 (0,0))) :: ((k67,Res.obj (Obj.cells #[(iV (0)),v65] 59 (0,0))) :: (og51_5c3 ++ (og51_6 ++ ((k6,Res.obj (Obj.cells #[c7_0,c7_1,c7_2,ov51_5c3] 26 (0,0))) :: σ)))))) (Arx ((List.Perm.append_left ([(k67,Res.obj (Obj.cells #[(iV (0)),v65] 59 (0,0)))]) ((List.Perm.append_left og51_5c3 ((List.Perm.append_left og51_6 (List.perm_append_comm_assoc ([(k6,Res.obj (Obj.cells #[c7_0,c7_1,c7_2,ov51_5c3] 26 (0,0)))]) ([(k3,Res.obj (Obj.cells #[(.slice none 0 0),(.slice none 0 0),(.slice none 0 0),(.slice none 0 0)] 26 (0,0)))]) _)).trans (List.perm_append_comm_assoc og51_6 ([(k3,Res.obj (Obj.cells #[(.slice none 0 0),(.slice none 0 0),(.slice none 0 0),(.slice none 0 0)] 26 (0,0)))]) _))).trans (List.perm_append_comm_assoc og51_5c3 ([(k3,Res.obj (Obj.cells #[(.slice none 0 0),(.slice none 0 0),(.slice none 0 0),(.slice none 0 0)] 26 (0,0)))]) _))).trans (List.perm_append_comm_assoc ([(k67,Res.obj (Obj.cells #[(iV (0)),v65] 59 (0,0)))]) ([(k3,Res.obj (Obj.cells #[(.slice none 0 0),(.slice none 0 0),(.slice none 0 0),(.slice none 0 0)] 26 (0,0)))]) _))) ?_
  refine Aj (σ':=((k6,Res.obj (Obj.cells #[c7_0,c7_1,c7_2,ov51_5c3] 26 (0,0))) :: ((k3,Res.obj (Obj.cells #[(.slice none 0 0),(.slice none 0 0),(.slice none 0 0),(.slice none 0 0)] 26 (0,0))) :: ((k67,Res.obj (Obj.cells #[(iV (0)),v65] 59 (0,0))) :: (og51_5c3 ++ (og51_6 ++ σ)))))) (Arx ((List.Perm.append_left ([(k3,Res.obj (Obj.cells #[(.slice none 0 0),(.slice none 0 0),(.slice none 0 0),(.slice none 0 0)] 26 (0,0)))]) ((List.Perm.append_left ([(k67,Res.obj (Obj.cells #[(iV (0)),v65] 59 (0,0)))]) ((List.Perm.append_left og51_5c3 (List.perm_append_comm_assoc og51_6 ([(k6,Res.obj (Obj.cells #[c7_0,c7_1,c7_2,ov51_5c3] 26 (0,0)))]) _)).trans (List.perm_append_comm_assoc og51_5c3 ([(k6,Res.obj (Obj.cells #[c7_0,c7_1,c7_2,ov51_5c3] 26 (0,0)))]) _))).trans (List.perm_append_comm_assoc ([(k67,Res.obj (Obj.cells #[(iV (0)),v65] 59 (0,0)))]) ([(k6,Res.obj (Obj.cells #[c7_0,c7_1,c7_2,ov51_5c3] 26 (0,0)))]) _))).trans (List.perm_append_comm_assoc ([(k3,Res.obj (Obj.cells #[(.slice none 0 0),(.slice none 0 0),(.slice none 0 0),(.slice none 0 0)] 26 (0,0)))]) ([(k6,Res.obj (Obj.cells #[c7_0,c7_1,c7_2,ov51_5c3] 26 (0,0)))]) _))) ?_
  refine Aj (σ':=((k67,Res.obj (Obj.cells #[(iV (0)),v65] 59 (0,0))) :: ((k6,Res.obj (Obj.cells #[c7_0,c7_1,c7_2,ov51_5c3] 26 (0,0))) :: ((k3,Res.obj (Obj.cells #[(.slice none 0 0),(.slice none 0 0),(.slice none 0 0),(.slice none 0 0)] 26 (0,0))) :: (og51_5c3 ++ (og51_6 ++ σ)))))) (Arx ((List.Perm.append_left ([(k6,Res.obj (Obj.cells #[c7_0,c7_1,c7_2,ov51_5c3] 26 (0,0)))]) (List.perm_append_comm_assoc ([(k3,Res.obj (Obj.cells #[(.slice none 0 0),(.slice none 0 0),(.slice none 0 0),(.slice none 0 0)] 26 (0,0)))]) ([(k67,Res.obj (Obj.cells #[(iV (0)),v65] 59 (0,0)))]) _)).trans (List.perm_append_comm_assoc ([(k6,Res.obj (Obj.cells #[c7_0,c7_1,c7_2,ov51_5c3] 26 (0,0)))]) ([(k67,Res.obj (Obj.cells #[(iV (0)),v65] 59 (0,0)))]) _))) ?_
  refine Aj (σ':=(og51_6 ++ ((k67,Res.obj (Obj.cells #[(iV (0)),v65] 59 (0,0))) :: ((k6,Res.obj (Obj.cells #[c7_0,c7_1,c7_2,ov51_5c3] 26 (0,0))) :: ((k3,Res.obj (Obj.cells #[(.slice none 0 0),(.slice none 0 0),(.slice none 0 0),(.slice none 0 0)] 26 (0,0))) :: (og51_5c3 ++ σ)))))) (Arx ((List.Perm.append_left ([(k67,Res.obj (Obj.cells #[(iV (0)),v65] 59 (0,0)))]) ((List.Perm.append_left ([(k6,Res.obj (Obj.cells #[c7_0,c7_1,c7_2,ov51_5c3] 26 (0,0)))]) ((List.Perm.append_left ([(k3,Res.obj (Obj.cells #[(.slice none 0 0),(.slice none 0 0),(.slice none 0 0),(.slice none 0 0)] 26 (0,0)))]) (List.perm_append_comm_assoc og51_5c3 og51_6 _)).trans (List.perm_append_comm_assoc ([(k3,Res.obj (Obj.cells #[(.slice none 0 0),(.slice none 0 0),(.slice none 0 0),(.slice none 0 0)] 26 (0,0)))]) og51_6 _))).trans (List.perm_append_comm_assoc ([(k6,Res.obj (Obj.cells #[c7_0,c7_1,c7_2,ov51_5c3] 26 (0,0)))]) og51_6 _))).trans (List.perm_append_comm_assoc ([(k67,Res.obj (Obj.cells #[(iV (0)),v65] 59 (0,0)))]) og51_6 _))) ?_
  refine Aj (σ':=(og51_5c3 ++ (og51_6 ++ ((k67,Res.obj (Obj.cells #[(iV (0)),v65] 59 (0,0))) :: ((k6,Res.obj (Obj.cells #[c7_0,c7_1,c7_2,ov51_5c3] 26 (0,0))) :: ((k3,Res.obj (Obj.cells #[(.slice none 0 0),(.slice none 0 0),(.slice none 0 0),(.slice none 0 0)] 26 (0,0))) :: σ)))))) (Arx ((List.Perm.append_left og51_6 ((List.Perm.append_left ([(k67,Res.obj (Obj.cells #[(iV (0)),v65] 59 (0,0)))]) ((List.Perm.append_left ([(k6,Res.obj (Obj.cells #[c7_0,c7_1,c7_2,ov51_5c3] 26 (0,0)))]) (List.perm_append_comm_assoc ([(k3,Res.obj (Obj.cells #[(.slice none 0 0),(.slice none 0 0),(.slice none 0 0),(.slice none 0 0)] 26 (0,0)))]) og51_5c3 _)).trans (List.perm_append_comm_assoc ([(k6,Res.obj (Obj.cells #[c7_0,c7_1,c7_2,ov51_5c3] 26 (0,0)))]) og51_5c3 _))).trans (List.perm_append_comm_assoc ([(k67,Res.obj (Obj.cells #[(iV (0)),v65] 59 (0,0)))]) og51_5c3 _))).trans (List.perm_append_comm_assoc og51_6 og51_5c3 _))) ?_
  refine Cc (fun mm ee dd ρ' σ'=>∃ (k:Nat) (xs:List Int) (g:Int) (ov70_5c3:Value) (og70_5c3:Own) (ov70_6:Value) (og70_6:Own),(a63.sellers.length - k) = mm∧[] = dd∧Ro.le ρ51 ρ'∧(og70_5c3 ++ (og70_6 ++ ((k67,Res.obj (Obj.cells #[(iV (g)),v65] 59 (0,0))) :: ((k6,Res.obj (Obj.cells #[c7_0,c7_1,c7_2,ov70_5c3] 26 (0,0))) :: ((k3,Res.obj (Obj.cells #[(.slice none 0 0),(.slice none 0 0),(.slice none 0 0),(.slice none 0 0)] 26 (0,0))) :: σ))))) = σ'∧ee 1 = vk∧ee 2 = (.pointer (some ⟨k2,0,none⟩))∧ee 4 = (.pointer (some ⟨k3,0,none⟩))∧ee 5 = (.pointer (some ⟨k6,0,none⟩))∧ee 10 = (iV ((i:Int)))∧ee 11 = (.pointer (some ⟨k67,0,none⟩))∧ee 6 = ov70_6∧ee 12 = (iV ((k:Int)))∧(k ≤ a63.sellers.length)∧(FlowOk (Ds m) (realH m picks) xs)∧(g = Fv xs i)∧(∀ s,s < 8→Fv xs s ≤ 1000000)∧(∀ s,i < s→s < 8→Fv xs s = 0)∧Grow ρ' 59 ov70_5c3 (salesTo m xs i) og70_5c3∧Grow ρ' 3 ov70_6 (hasOf m xs) og70_6∧True) (m:=_) ⟨0,xs,0,ov51_5c3,og51_5c3,ov51_6,og51_6,rfl,rfl,Ary,rfl,h51_1,h51_2,h51_4,h51_5,h51_10,rfl,h51_6,rfl,(Nat.zero_le _),p51_1,(p51_3 i (Nat.le_refl _) (by omega)).symm,p51_2,(fun s h1 h2=>p51_3 s (by omega) h2),OG51_5c3,OG51_6,trivial⟩ ?_
  rintro m70 e70 _ ρ70 _ ⟨k,xs,g,ov70_5c3,og70_5c3,ov70_6,og70_6,rfl,rfl,l70,rfl,h70_1,h70_2,h70_4,h70_5,h70_10,h70_11,h70_6,h70_12,p70_0,p70_1,p70_2,p70_3,p70_4,OG70_5c3,OG70_6,_⟩
  replace rk:=Asa l70 rk
  replace r2:=Arv l70 r2
  replace i7_1:=Asa l70 i7_1
  replace i7_2:=Asa l70 i7_2
  replace i7_3:=Asa l70 i7_3
  replace r65:=Asa l70 r65
  have hgs:=sold_le p70_1 (show i < 8 by omega)
  have hgl:=p70_3 i (show i < 8 by omega)
  refine Ai fun K71 k71=>?_
  refine w_q rfl rfl fun K72 k72=>?_
  refine Aa rfl (Ah (v:=(iV ((k:Int)))) h70_12) ?_
  refine Aa rfl (Cb Tryd.underlying59 rfl rfl ⟨_,Ab Tryd.typeInfo30,rfl⟩ (by decide) h70_11 rfl) ?_
  refine Ae rfl (Gv (v:=v65) ⟨_,Tryd.underlying30,rfl⟩ rfl (List.mem_append_right _ (List.mem_append_right _ (List.mem_cons_self ..))) rfl ?_)
  have g73:=Val.len r65
  refine Aa rfl (Ce (el:=3) Tryd.underlying30 rfl r65) ?_
  refine Aa rfl (Da (p:=(k:Int)) (q:=((a63.sellers.length:Nat):Int)) rfl rfl) ?_
  apply Ac
  apply k72
  refine As (t:=decide ((k:Int) < ((a63.sellers.length:Nat):Int))) rfl (fun b74=>?_) (fun b74=>?_)
  ·have q74:=of_decide_eq_true b74
   refine Al ?_
   apply k71
   refine Ai fun K75 k75=>?_
   refine Ao ?_
   refine w_q rfl rfl fun K76 k76=>?_
   refine Aa rfl (Cb Tryd.underlying59 rfl rfl ⟨_,Ab Tryd.typeInfo30,rfl⟩ (by decide) h70_11 rfl) ?_
   refine Ae rfl (Gv (v:=v65) ⟨_,Tryd.underlying30,rfl⟩ rfl (List.mem_append_right _ (List.mem_append_right _ (List.mem_cons_self ..))) rfl ?_)
   refine Aa rfl (Ah (v:=(iV ((k:Int)))) h70_12) ?_
   obtain ⟨a78,ha78⟩:=Ed (xs:=a63.sellers) (i:=k) (by first | omega | (rw [hasOf_len]; omega))
   have gt_a78:=gs_a63.2.2.1 _ _ ha78
   obtain ⟨x79,hx79⟩:∃ x:Nat,a78 = (x:Int):=⟨a78.toNat,by omega⟩
   subst hx79
   have hsl79:=Aag ha63 ha78
   refine Ak rfl (Ci k Tryd.underlying30 ty3 rfl r65 (q:=(k:Int)) rfl rfl ha78) fun v77 r77=>?_
   have ⟨g80a,g80b⟩:=At.rng r77
   refine Aa rfl (Bc ty3 rfl r77) ?_
   refine l_A (iV ((x79:Int))) rfl rfl ?_
   apply Ac
   apply k76
   refine Ai fun K81 k81=>?_
   refine o_begin ((og70_5c3 ++ (og70_6 ++ ((k67,Res.obj (Obj.cells #[(iV (g)),v65] 59 (0,0))) :: ((k6,Res.obj (Obj.cells #[c7_0,c7_1,c7_2,ov70_5c3] 26 (0,0))) :: ((k3,Res.obj (Obj.cells #[(.slice none 0 0),(.slice none 0 0),(.slice none 0 0),(.slice none 0 0)] 26 (0,0))) :: [])))))) [0,1,2,3,4,5,6,7,8,9,10,11,12,13,14,15,16,17,18,19,20,21] (by kernel_rfl) rfl rfl ?_
   refine o_val (i:=0) [o1,o0,o0,o0,o0,o0,o0,o0,o0,o0,o0,o0,o0,o0,o0,o0,o0,o0,o0,o0,o0,o0] rfl (by kernel_rfl) rfl ⟨Ary,(by repeat first | exact subN | refine subC ?_ | refine subG ?_ | refine subB ?_ | refine subL ?_)⟩ rfl (Yld.o (Ah (v:=ov70_6) h70_6)) ?_
   refine o_val (i:=1) [o1,o1,o0,o0,o0,o0,o0,o0,o0,o0,o0,o0,o0,o0,o0,o0,o0,o0,o0,o0,o0,o0] rfl (by kernel_rfl) rfl ⟨Ary,(by repeat first | exact subN | refine subC ?_ | refine subG ?_ | refine subB ?_ | refine subL ?_)⟩ rfl (Yld.o (Ah (v:=(iV ((x79:Int)))) rfl)) ?_
   refine o_val (i:=2) [o1,o1,o1,o0,o0,o0,o0,o0,o0,o0,o0,o0,o0,o0,o0,o0,o0,o0,o0,o0,o0,o0] rfl (by kernel_rfl) rfl ⟨Ary,(by repeat first | exact subN | refine subC ?_ | refine subG ?_ | refine subB ?_ | refine subL ?_)⟩ rfl (Yld.o (Nm x79 Tryd.underlying30 ty3.info rfl OG70_6 (q:=(x79:Int)) rfl rfl (by first | omega | (rw [hasOf_len]; omega)) rfl)) ?_
   obtain ⟨a83,ha83⟩:=Ed (xs:=hasOf m xs) (i:=x79) (by first | omega | (rw [hasOf_len]; omega))
   obtain ⟨_,hz_a83⟩:=hasOf_get ha83; subst hz_a83
   have hlp_a83:=hon_left ok p70_1 (show x79 < 5 by omega)
   have ⟨g82a,g82b⟩:=grow_i64 OG70_6 ha83
   refine o_val (i:=3) [o1,o1,o1,o1,o0,o0,o0,o0,o0,o0,o0,o0,o0,o0,o0,o0,o0,o0,o0,o0,o0,o0] rfl (by kernel_rfl) rfl ⟨Ary,(by repeat first | exact subN | refine subC ?_ | refine subG ?_ | refine subB ?_ | refine subL ?_)⟩ rfl (y_loadGi OG70_6 (fun p hp=>(List.mem_append_right _ (List.mem_append_left _ hp))) ha83 ⟨_,Tryd.underlying3,rfl⟩ rfl rfl) ?_
   refine o_val (i:=4) [o1,o1,o1,o1,o1,o0,o0,o0,o0,o0,o0,o0,o0,o0,o0,o0,o0,o0,o0,o0,o0,o0] rfl (by kernel_rfl) rfl ⟨Ary,(by repeat first | exact subN | refine subC ?_ | refine subG ?_ | refine subB ?_ | refine subL ?_)⟩ rfl (Yld.o (Ah (v:=vk) h70_1)) ?_
   refine o_val (i:=5) [o1,o1,o1,o1,o1,o1,o0,o0,o0,o0,o0,o0,o0,o0,o0,o0,o0,o0,o0,o0,o0,o0] rfl (by kernel_rfl) rfl ⟨Ary,(by repeat first | exact subN | refine subC ?_ | refine subG ?_ | refine subB ?_ | refine subL ?_)⟩ rfl (Yld.o (Ah (v:=(iV ((i:Int)))) h70_10)) ?_
   refine o_val (i:=6) [o1,o1,o1,o1,o1,o1,o1,o0,o0,o0,o0,o0,o0,o0,o0,o0,o0,o0,o0,o0,o0,o0] rfl (by kernel_rfl) rfl ⟨Ary,(by repeat first | exact subN | refine subC ?_ | refine subG ?_ | refine subB ?_ | refine subL ?_)⟩ rfl (Yld.o (Vz (p:=5) (q:=(i:Int)) rfl rfl (z:=(((5 * i):Nat):Int)) (Bo (by first | rfl | omega | (push_cast; rfl)) (by omega) (by omega)))) ?_
   refine o_val (i:=7) [o1,o1,o1,o1,o1,o1,o1,o1,o0,o0,o0,o0,o0,o0,o0,o0,o0,o0,o0,o0,o0,o0] rfl (by kernel_rfl) rfl ⟨Ary,(by repeat first | exact subN | refine subC ?_ | refine subG ?_ | refine subB ?_ | refine subL ?_)⟩ rfl (Yld.o (Br (p:=10) (q:=(((5 * i):Nat):Int)) rfl rfl (z:=(((10 + (5 * i)):Nat):Int)) (Bo (by first | rfl | omega | (push_cast; rfl)) (by omega) (by omega)))) ?_
   refine o_val (i:=8) [o1,o1,o1,o1,o1,o1,o1,o1,o1,o0,o0,o0,o0,o0,o0,o0,o0,o0,o0,o0,o0,o0] rfl (by kernel_rfl) rfl ⟨Ary,(by repeat first | exact subN | refine subC ?_ | refine subG ?_ | refine subB ?_ | refine subL ?_)⟩ rfl (Yld.o (Ah (v:=(iV ((k:Int)))) h70_12)) ?_
   refine o_val (i:=9) [o1,o1,o1,o1,o1,o1,o1,o1,o1,o1,o0,o0,o0,o0,o0,o0,o0,o0,o0,o0,o0,o0] rfl (by kernel_rfl) rfl ⟨Ary,(by repeat first | exact subN | refine subC ?_ | refine subG ?_ | refine subB ?_ | refine subL ?_)⟩ rfl (Yld.o (Br (p:=(((10 + (5 * i)):Nat):Int)) (q:=(k:Int)) rfl rfl (z:=((((10 + (5 * i)) + k):Nat):Int)) (Bo (by first | rfl | omega | (push_cast; rfl)) (by omega) (by omega)))) ?_
   refine o_val (i:=11) [o1,o1,o1,o1,o1,o1,o1,o1,o1,o1,o0,o1,o0,o0,o0,o0,o0,o0,o0,o0,o0,o0] rfl (by kernel_rfl) rfl ⟨Ary,(by repeat first | exact subN | refine subC ?_ | refine subG ?_ | refine subB ?_ | refine subL ?_)⟩ rfl (Yld.o (Ah (v:=ov70_6) h70_6)) ?_
   refine o_val (i:=12) [o1,o1,o1,o1,o1,o1,o1,o1,o1,o1,o0,o1,o1,o0,o0,o0,o0,o0,o0,o0,o0,o0] rfl (by kernel_rfl) rfl ⟨Ary,(by repeat first | exact subN | refine subC ?_ | refine subG ?_ | refine subB ?_ | refine subL ?_)⟩ rfl (Yld.o (Ah (v:=(iV ((x79:Int)))) rfl)) ?_
   refine o_val (i:=13) [o1,o1,o1,o1,o1,o1,o1,o1,o1,o1,o0,o1,o1,o1,o0,o0,o0,o0,o0,o0,o0,o0] rfl (by kernel_rfl) rfl ⟨Ary,(by repeat first | exact subN | refine subC ?_ | refine subG ?_ | refine subB ?_ | refine subL ?_)⟩ rfl (Yld.o (Nm x79 Tryd.underlying30 ty3.info rfl OG70_6 (q:=(x79:Int)) rfl rfl (by first | omega | (rw [hasOf_len]; omega)) rfl)) ?_
   have ⟨g84a,g84b⟩:=grow_i64 OG70_6 ha83
   refine o_val (i:=14) [o1,o1,o1,o1,o1,o1,o1,o1,o1,o1,o0,o1,o1,o1,o1,o0,o0,o0,o0,o0,o0,o0] rfl (by kernel_rfl) rfl ⟨Ary,(by repeat first | exact subN | refine subC ?_ | refine subG ?_ | refine subB ?_ | refine subL ?_)⟩ rfl (y_loadGi OG70_6 (fun p hp=>(List.mem_append_right _ (List.mem_append_left _ hp))) ha83 ⟨_,Tryd.underlying3,rfl⟩ rfl rfl) ?_
   refine o_val (i:=15) [o1,o1,o1,o1,o1,o1,o1,o1,o1,o1,o0,o1,o1,o1,o1,o1,o0,o0,o0,o0,o0,o0] rfl (by kernel_rfl) rfl ⟨Ary,(by repeat first | exact subN | refine subC ?_ | refine subG ?_ | refine subB ?_ | refine subL ?_)⟩ rfl (Yld.o (Br (p:=(lf xs x79)) (q:=1) rfl rfl (z:=((lf xs x79) + 1)) (Bo (by rfl) (by omega) (by omega)))) ?_
   refine o_val (i:=17) [o1,o1,o1,o1,o1,o1,o1,o1,o1,o1,o0,o1,o1,o1,o1,o1,o0,o1,o0,o0,o0,o0] rfl (by kernel_rfl) rfl ⟨Ary,(by repeat first | exact subN | refine subC ?_ | refine subG ?_ | refine subB ?_ | refine subL ?_)⟩ rfl (Yld.o (Cb Tryd.underlying59 rfl rfl ⟨_,Ab Tryd.typeInfo3,rfl⟩ (by decide) h70_11 rfl)) ?_
   refine o_val (i:=18) [o1,o1,o1,o1,o1,o1,o1,o1,o1,o1,o0,o1,o1,o1,o1,o1,o0,o1,o1,o0,o0,o0] rfl (by kernel_rfl) rfl ⟨Ary,(by repeat first | exact subN | refine subC ?_ | refine subG ?_ | refine subB ?_ | refine subL ?_)⟩ rfl (y_loadOC (v:=(iV (g))) ⟨_,Tryd.underlying3,rfl⟩ rfl (List.mem_append_right _ (List.mem_append_right _ (List.mem_cons_self ..))) rfl) ?_
   refine o_val (i:=19) [o1,o1,o1,o1,o1,o1,o1,o1,o1,o1,o0,o1,o1,o1,o1,o1,o0,o1,o1,o1,o0,o0] rfl (by kernel_rfl) rfl ⟨Ary,(by repeat first | exact subN | refine subC ?_ | refine subG ?_ | refine subB ?_ | refine subL ?_)⟩ rfl (Yld.o (Oq (p:=1000000) (q:=g) rfl rfl (z:=(1000000 - g)) (Bo (by first | rfl | omega | (push_cast; rfl)) (by omega) (by omega)))) ?_
   have hch85:=chooseN_lt (l:=picks) (k:=(((10 + (5 * i)) + k)))
   refine o_run (i:=10) [o1,o1,o1,o1,o1,o1,o1,o1,o1,o1,o1,o1,o1,o1,o1,o1,o0,o1,o1,o1,o0,o0] rfl (by kernel_rfl) rfl rfl (Bn (vs:=[vk,(iV (((((10 + (5 * i)) + k):Nat):Int)))]) (v:=(iV ((((chooseN picks (((10 + (5 * i)) + k))):Nat):Int)))) (c_choose rk) Tryd.func30 rfl rfl ⟨rfl,rfl,trivial⟩ ⟨⟨Ary,(by repeat first | exact subN | refine subC ?_ | refine subG ?_ | refine subB ?_ | refine subL ?_)⟩,?_⟩)
   have htm86a:=Int.tmod_nonneg (((lf xs x79) + 1)) (show (0:Int) ≤ (((chooseN picks (((10 + (5 * i)) + k))):Nat):Int) by omega)
   have htm86b:=Int.tmod_lt_of_pos ((((chooseN picks (((10 + (5 * i)) + k))):Nat):Int)) (show 0 < ((lf xs x79) + 1) by omega)
   refine o_val1 (i:=16) [o1,o1,o1,o1,o1,o1,o1,o1,o1,o1,o1,o1,o1,o1,o1,o1,o1,o1,o1,o1,o0,o0] rfl (by kernel_rfl) rfl ⟨Ary,(by repeat first | exact subN | refine subC ?_ | refine subG ?_ | refine subB ?_ | refine subL ?_)⟩ rfl (Yld.o (y_rem (p:=(((chooseN picks (((10 + (5 * i)) + k))):Nat):Int)) (q:=((lf xs x79) + 1)) rfl rfl (by omega) (z:=(((((chooseN picks (((10 + (5 * i)) + k))):Nat):Int)).tmod (((lf xs x79) + 1)))) rfl)) ⟨Ary,(by repeat first | exact subN | refine subC ?_ | refine subG ?_ | refine subB ?_ | refine subL ?_)⟩ ?_
   refine o_val1 (i:=20) [o1,o1,o1,o1,o1,o1,o1,o1,o1,o1,o1,o1,o1,o1,o1,o1,o1,o1,o1,o1,o1,o0] rfl (by kernel_rfl) rfl ⟨Ary,(by repeat first | exact subN | refine subC ?_ | refine subG ?_ | refine subB ?_ | refine subL ?_)⟩ rfl (Yld.o (y_min3 (p:=(lf xs x79)) (q:=(((((chooseN picks (((10 + (5 * i)) + k))):Nat):Int)).tmod (((lf xs x79) + 1)))) (r:=(1000000 - g)) rfl rfl rfl)) ⟨Ary,(by repeat first | exact subN | refine subC ?_ | refine subG ?_ | refine subB ?_ | refine subL ?_)⟩ ?_
   obtain ⟨gn,hgn_⟩:∃ z:Int,z = (min (min ((lf xs x79)) ((((((chooseN picks (((10 + (5 * i)) + k))):Nat):Int)).tmod (((lf xs x79) + 1))))) ((1000000 - g))):=⟨_,rfl⟩
   refine o_val1 (i:=21) [o1,o1,o1,o1,o1,o1,o1,o1,o1,o1,o1,o1,o1,o1,o1,o1,o1,o1,o1,o1,o1,o1] rfl (by kernel_rfl) rfl ⟨Ary,(by repeat first | exact subN | refine subC ?_ | refine subG ?_ | refine subB ?_ | refine subL ?_)⟩ rfl (Yld.o (Cp (v:=(.int .i64 gn)) ((show _ = Value.int .i64 ((min (min ((lf xs x79)) ((((((chooseN picks (((10 + (5 * i)) + k))):Nat):Int)).tmod (((lf xs x79) + 1))))) ((1000000 - g)))) from rfl).trans (by rw [hgn_])))) ⟨Ary,(by repeat first | exact subN | refine subC ?_ | refine subG ?_ | refine subB ?_ | refine subL ?_)⟩ ?_
   have hgnb:0 ≤ gn∧gn ≤ (lf xs x79)∧gn ≤ (1000000 - g):=by rw [hgn_]; exact min3_b (by omega) (by omega) (by omega)
   refine o_end rfl ?_
   apply k81
   refine w_q rfl rfl fun K87 k87=>?_
   refine Aa rfl (Ah (v:=ov70_6) h70_6) ?_
   refine l_M (iV ((x79:Int))) rfl rfl ?_
   refine Aa rfl (Ah (v:=ov70_6) h70_6) ?_
   refine l_M (iV ((x79:Int))) rfl rfl ?_
   refine Aa rfl (Nm x79 Tryd.underlying30 ty3.info rfl OG70_6 (q:=(x79:Int)) rfl rfl (by first | omega | (rw [hasOf_len]; omega)) rfl) ?_
   have ⟨g88a,g88b⟩:=grow_i64 OG70_6 ha83
   refine l_valO ⟨Ary,fun _ h=>h⟩ rfl (y_loadGi OG70_6 (fun p hp=>(List.mem_append_right _ (List.mem_append_left _ hp))) ha83 ⟨_,Tryd.underlying3,rfl⟩ rfl rfl) ?_
   refine l_M (iV (gn)) rfl rfl ?_
   refine Aa rfl (Oq (p:=(lf xs x79)) (q:=gn) rfl rfl (z:=((lf xs x79) - gn)) (Bo (by rfl) (by omega) (by omega))) ?_
   refine Aa rfl (Nm x79 Tryd.underlying30 ty3.info rfl OG70_6 (q:=(x79:Int)) rfl rfl (by first | omega | (rw [hasOf_len]; omega)) rfl) ?_
   refine Bj (σ':=(og70_6 ++ (og70_5c3 ++ ((k67,Res.obj (Obj.cells #[(iV (g)),v65] 59 (0,0))) :: ((k6,Res.obj (Obj.cells #[c7_0,c7_1,c7_2,ov70_5c3] 26 (0,0))) :: ((k3,Res.obj (Obj.cells #[(.slice none 0 0),(.slice none 0 0),(.slice none 0 0),(.slice none 0 0)] 26 (0,0))) :: σ)))))) (Arx (List.perm_append_comm_assoc og70_5c3 og70_6 _)) ?_
   refine Cx rfl (w_storeG (σ:=(og70_5c3 ++ ((k67,Res.obj (Obj.cells #[(iV (g)),v65] 59 (0,0))) :: ((k6,Res.obj (Obj.cells #[c7_0,c7_1,c7_2,ov70_5c3] 26 (0,0))) :: ((k3,Res.obj (Obj.cells #[(.slice none 0 0),(.slice none 0 0),(.slice none 0 0),(.slice none 0 0)] 26 (0,0))) :: σ))))) (gr:=og70_6) (i:=x79) (v:=ov70_6) (w:=(iV (((lf xs x79) - gn)))) ty3.info rfl rfl rfl (Cv.2 ⟨rfl,by constructor <;> omega⟩) OG70_6 (by first | omega | (rw [hasOf_len]; omega)) fun gr89 G89=>?_)
   apply Ac
   apply k87
   refine Ag rfl rfl ?_
   refine Aa rfl (Cb Tryd.underlying59 rfl rfl ⟨_,Ab Tryd.typeInfo3,rfl⟩ (by decide) h70_11 rfl) ?_
   refine Ae rfl (Gv (v:=(iV (g))) ⟨_,Tryd.underlying3,rfl⟩ rfl (List.mem_append_right _ (List.mem_append_right _ (List.mem_cons_self ..))) rfl ?_)
   refine l_M (iV (gn)) rfl rfl ?_
   refine Aa rfl (Br (p:=g) (q:=gn) rfl rfl (z:=(g + gn)) (Bo (by rfl) (by omega) (by omega))) ?_
   refine Aa rfl (Cb Tryd.underlying59 rfl rfl ⟨_,Ab Tryd.typeInfo3,rfl⟩ (by decide) h70_11 rfl) ?_
   refine Bj (σ':=((k67,Res.obj (Obj.cells #[(iV (g)),v65] 59 (0,0))) :: (gr89 ++ (og70_5c3 ++ ((k6,Res.obj (Obj.cells #[c7_0,c7_1,c7_2,ov70_5c3] 26 (0,0))) :: ((k3,Res.obj (Obj.cells #[(.slice none 0 0),(.slice none 0 0),(.slice none 0 0),(.slice none 0 0)] 26 (0,0))) :: σ)))))) (Arx ((List.Perm.append_left gr89 (List.perm_append_comm_assoc og70_5c3 ([(k67,Res.obj (Obj.cells #[(iV (g)),v65] 59 (0,0)))]) _)).trans (List.perm_append_comm_assoc gr89 ([(k67,Res.obj (Obj.cells #[(iV (g)),v65] 59 (0,0)))]) _))) ?_
   refine Cx rfl (Cz (j:=0) (v:=(iV ((g + gn)))) ⟨_,Ab Tryd.typeInfo3,rfl⟩ rfl rfl rfl rfl (Nat.le_of_ble_eq_true rfl) ?_)
   apply Ac
   apply k75
   refine Ag rfl rfl ?_
   refine Aa rfl (Ah (v:=(iV ((k:Int)))) h70_12) ?_
   refine Aa rfl (Br (p:=(k:Int)) (q:=1) rfl rfl (z:=(((k + 1):Nat):Int)) (Bo (by first | rfl | omega | (push_cast; rfl)) (by omega) (by omega))) ?_
   refine l_A (iV ((((k + 1):Nat):Int))) rfl rfl ?_
   refine Bj (σ':=((k3,Res.obj (Obj.cells #[(.slice none 0 0),(.slice none 0 0),(.slice none 0 0),(.slice none 0 0)] 26 (0,0))) :: ((k67,Res.obj (Obj.cells #[(iV ((g + gn))),v65] 59 (0,0))) :: (gr89 ++ (og70_5c3 ++ ((k6,Res.obj (Obj.cells #[c7_0,c7_1,c7_2,ov70_5c3] 26 (0,0))) :: σ)))))) (Arx ((List.Perm.append_left ([(k67,Res.obj (Obj.cells #[(iV ((g + gn))),v65] 59 (0,0)))]) ((List.Perm.append_left gr89 ((List.Perm.append_left og70_5c3 (List.perm_append_comm_assoc ([(k6,Res.obj (Obj.cells #[c7_0,c7_1,c7_2,ov70_5c3] 26 (0,0)))]) ([(k3,Res.obj (Obj.cells #[(.slice none 0 0),(.slice none 0 0),(.slice none 0 0),(.slice none 0 0)] 26 (0,0)))]) _)).trans (List.perm_append_comm_assoc og70_5c3 ([(k3,Res.obj (Obj.cells #[(.slice none 0 0),(.slice none 0 0),(.slice none 0 0),(.slice none 0 0)] 26 (0,0)))]) _))).trans (List.perm_append_comm_assoc gr89 ([(k3,Res.obj (Obj.cells #[(.slice none 0 0),(.slice none 0 0),(.slice none 0 0),(.slice none 0 0)] 26 (0,0)))]) _))).trans (List.perm_append_comm_assoc ([(k67,Res.obj (Obj.cells #[(iV ((g + gn))),v65] 59 (0,0)))]) ([(k3,Res.obj (Obj.cells #[(.slice none 0 0),(.slice none 0 0),(.slice none 0 0),(.slice none 0 0)] 26 (0,0)))]) _))) ?_
   refine Bj (σ':=((k6,Res.obj (Obj.cells #[c7_0,c7_1,c7_2,ov70_5c3] 26 (0,0))) :: ((k3,Res.obj (Obj.cells #[(.slice none 0 0),(.slice none 0 0),(.slice none 0 0),(.slice none 0 0)] 26 (0,0))) :: ((k67,Res.obj (Obj.cells #[(iV ((g + gn))),v65] 59 (0,0))) :: (gr89 ++ (og70_5c3 ++ σ)))))) (Arx ((List.Perm.append_left ([(k3,Res.obj (Obj.cells #[(.slice none 0 0),(.slice none 0 0),(.slice none 0 0),(.slice none 0 0)] 26 (0,0)))]) ((List.Perm.append_left ([(k67,Res.obj (Obj.cells #[(iV ((g + gn))),v65] 59 (0,0)))]) ((List.Perm.append_left gr89 (List.perm_append_comm_assoc og70_5c3 ([(k6,Res.obj (Obj.cells #[c7_0,c7_1,c7_2,ov70_5c3] 26 (0,0)))]) _)).trans (List.perm_append_comm_assoc gr89 ([(k6,Res.obj (Obj.cells #[c7_0,c7_1,c7_2,ov70_5c3] 26 (0,0)))]) _))).trans (List.perm_append_comm_assoc ([(k67,Res.obj (Obj.cells #[(iV ((g + gn))),v65] 59 (0,0)))]) ([(k6,Res.obj (Obj.cells #[c7_0,c7_1,c7_2,ov70_5c3] 26 (0,0)))]) _))).trans (List.perm_append_comm_assoc ([(k3,Res.obj (Obj.cells #[(.slice none 0 0),(.slice none 0 0),(.slice none 0 0),(.slice none 0 0)] 26 (0,0)))]) ([(k6,Res.obj (Obj.cells #[c7_0,c7_1,c7_2,ov70_5c3] 26 (0,0)))]) _))) ?_
   refine Bj (σ':=((k67,Res.obj (Obj.cells #[(iV ((g + gn))),v65] 59 (0,0))) :: ((k6,Res.obj (Obj.cells #[c7_0,c7_1,c7_2,ov70_5c3] 26 (0,0))) :: ((k3,Res.obj (Obj.cells #[(.slice none 0 0),(.slice none 0 0),(.slice none 0 0),(.slice none 0 0)] 26 (0,0))) :: (gr89 ++ (og70_5c3 ++ σ)))))) (Arx ((List.Perm.append_left ([(k6,Res.obj (Obj.cells #[c7_0,c7_1,c7_2,ov70_5c3] 26 (0,0)))]) (List.perm_append_comm_assoc ([(k3,Res.obj (Obj.cells #[(.slice none 0 0),(.slice none 0 0),(.slice none 0 0),(.slice none 0 0)] 26 (0,0)))]) ([(k67,Res.obj (Obj.cells #[(iV ((g + gn))),v65] 59 (0,0)))]) _)).trans (List.perm_append_comm_assoc ([(k6,Res.obj (Obj.cells #[c7_0,c7_1,c7_2,ov70_5c3] 26 (0,0)))]) ([(k67,Res.obj (Obj.cells #[(iV ((g + gn))),v65] 59 (0,0)))]) _))) ?_
   refine Bj (σ':=(gr89 ++ ((k67,Res.obj (Obj.cells #[(iV ((g + gn))),v65] 59 (0,0))) :: ((k6,Res.obj (Obj.cells #[c7_0,c7_1,c7_2,ov70_5c3] 26 (0,0))) :: ((k3,Res.obj (Obj.cells #[(.slice none 0 0),(.slice none 0 0),(.slice none 0 0),(.slice none 0 0)] 26 (0,0))) :: (og70_5c3 ++ σ)))))) (Arx ((List.Perm.append_left ([(k67,Res.obj (Obj.cells #[(iV ((g + gn))),v65] 59 (0,0)))]) ((List.Perm.append_left ([(k6,Res.obj (Obj.cells #[c7_0,c7_1,c7_2,ov70_5c3] 26 (0,0)))]) (List.perm_append_comm_assoc ([(k3,Res.obj (Obj.cells #[(.slice none 0 0),(.slice none 0 0),(.slice none 0 0),(.slice none 0 0)] 26 (0,0)))]) gr89 _)).trans (List.perm_append_comm_assoc ([(k6,Res.obj (Obj.cells #[c7_0,c7_1,c7_2,ov70_5c3] 26 (0,0)))]) gr89 _))).trans (List.perm_append_comm_assoc ([(k67,Res.obj (Obj.cells #[(iV ((g + gn))),v65] 59 (0,0)))]) gr89 _))) ?_
   refine Bj (σ':=(og70_5c3 ++ (gr89 ++ ((k67,Res.obj (Obj.cells #[(iV ((g + gn))),v65] 59 (0,0))) :: ((k6,Res.obj (Obj.cells #[c7_0,c7_1,c7_2,ov70_5c3] 26 (0,0))) :: ((k3,Res.obj (Obj.cells #[(.slice none 0 0),(.slice none 0 0),(.slice none 0 0),(.slice none 0 0)] 26 (0,0))) :: σ)))))) (Arx ((List.Perm.append_left gr89 ((List.Perm.append_left ([(k67,Res.obj (Obj.cells #[(iV ((g + gn))),v65] 59 (0,0)))]) ((List.Perm.append_left ([(k6,Res.obj (Obj.cells #[c7_0,c7_1,c7_2,ov70_5c3] 26 (0,0)))]) (List.perm_append_comm_assoc ([(k3,Res.obj (Obj.cells #[(.slice none 0 0),(.slice none 0 0),(.slice none 0 0),(.slice none 0 0)] 26 (0,0)))]) og70_5c3 _)).trans (List.perm_append_comm_assoc ([(k6,Res.obj (Obj.cells #[c7_0,c7_1,c7_2,ov70_5c3] 26 (0,0)))]) og70_5c3 _))).trans (List.perm_append_comm_assoc ([(k67,Res.obj (Obj.cells #[(iV ((g + gn))),v65] 59 (0,0)))]) og70_5c3 _))).trans (List.perm_append_comm_assoc gr89 og70_5c3 _))) ?_
   apply Ac
   refine ⟨_,?_,((k + 1)),((give xs i x79 gn)),((g + gn)),ov70_5c3,og70_5c3,ov70_6,gr89,rfl,rfl,l70,rfl,h70_1,h70_2,h70_4,h70_5,h70_10,h70_11,h70_6,rfl,(by omega),(FlowOk.give p70_1 (by omega) (by omega) (by omega) (by omega) hsl79),(by rw [Vq p70_1.len (by omega) (by omega) (by omega),if_pos rfl,← p70_2]),(fun s hs=>by rw [Vq p70_1.len (by omega) (by omega) hs]; have:=p70_3 s hs; split <;> omega),(fun s h1 h2=>by rw [Vq p70_1.len (by omega) (by omega) h2,if_neg (by omega)]; exact p70_4 s h1 h2),(Ga ((salesTo_give p70_1.len (by omega) (by omega)).symm) OG70_5c3),(Ga (hasOf_set ok p70_1.len (by omega) (by omega)) G89),trivial⟩
   omega
  have q74:=of_decide_eq_false b74
  refine Bx ?_
  apply k68
  refine Ag rfl rfl ?_
  refine Aa rfl (Cb Tryd.underlying26 rfl rfl ⟨_,Ab Tryd.typeInfo24,rfl⟩ (by decide) h70_5 rfl) ?_
  refine Ae rfl (Gv (v:=ov70_5c3) ⟨_,Tryd.underlying24,rfl⟩ rfl (List.mem_append_right _ (List.mem_append_right _ (List.mem_cons_of_mem _ (List.mem_cons_self ..)))) rfl ?_)
  refine Bj (σ':=((k67,Res.obj (Obj.cells #[(iV (g)),v65] 59 (0,0))) :: (og70_5c3 ++ (og70_6 ++ ((k6,Res.obj (Obj.cells #[c7_0,c7_1,c7_2,ov70_5c3] 26 (0,0))) :: ((k3,Res.obj (Obj.cells #[(.slice none 0 0),(.slice none 0 0),(.slice none 0 0),(.slice none 0 0)] 26 (0,0))) :: σ)))))) (Arx ((List.Perm.append_left og70_5c3 (List.perm_append_comm_assoc og70_6 ([(k67,Res.obj (Obj.cells #[(iV (g)),v65] 59 (0,0)))]) _)).trans (List.perm_append_comm_assoc og70_5c3 ([(k67,Res.obj (Obj.cells #[(iV (g)),v65] 59 (0,0)))]) _))) ?_
  refine Ae rfl (Xt (i:=0) (cs:=[(iV (g)),v65]) (rs:=[]) ⟨_,Tryd.underlying59,rfl⟩ ⟨_,Ab Tryd.typeInfo59,rfl⟩ h70_11 rfl rfl rfl ?_)
  have r90:Val ρ70 (.agg #[(iV (g)),v65]) (⟨g,a63.sellers⟩:Sale):=Sale.shut (x:=(⟨g,a63.sellers⟩:Sale)) (show I64 (g) from by constructor <;> omega) r65
  refine Ae rfl (Bi (α:=Sale) (xs:=[(⟨g,a63.sellers⟩:Sale)]) (vs:=[(.agg #[(iV (g)),v65])]) Tryd.underlying24 Su Aeo rfl (by decide) (Dl (os:=[.tmp 118]) ⟨rfl,trivial⟩) ⟨r90,trivial⟩ rfl (by decide) fun k91 cs91 R91=>?_)
  have G91:Grow ρ70 59 (.slice (some ⟨k91,0,none⟩) 1 1) ([(⟨g,a63.sellers⟩:Sale)]:List Sale) [(k91,Res.obj (.cells cs91.toArray 59 (0,0)))]:=Bs R91 rfl (by decide)
  refine Ca G91 fun ρ93 l93 r93=>?_
  replace rk:=Asa l93 rk
  replace r2:=Arv l93 r2
  replace i7_1:=Asa l93 i7_1
  replace i7_2:=Asa l93 i7_2
  replace i7_3:=Asa l93 i7_3
  replace r65:=Asa l93 r65
  replace OG70_5c3:=Grow.mono l93 OG70_5c3
  replace OG70_6:=Grow.mono l93 OG70_6
  replace r90:=Asa l93 r90
  refine Bj (σ':=(og70_5c3 ++ ((k67,Res.obj (Obj.cells #[(iV (g)),v65] 59 (0,0))) :: (og70_6 ++ ((k6,Res.obj (Obj.cells #[c7_0,c7_1,c7_2,ov70_5c3] 26 (0,0))) :: ((k3,Res.obj (Obj.cells #[(.slice none 0 0),(.slice none 0 0),(.slice none 0 0),(.slice none 0 0)] 26 (0,0))) :: σ)))))) (Arx (List.perm_append_comm_assoc ([(k67,Res.obj (Obj.cells #[(iV (g)),v65] 59 (0,0)))]) og70_5c3 _)) ?_
  refine Ae rfl (Fx (σ:=((k67,Res.obj (Obj.cells #[(iV (g)),v65] 59 (0,0))) :: (og70_6 ++ ((k6,Res.obj (Obj.cells #[c7_0,c7_1,c7_2,ov70_5c3] 26 (0,0))) :: ((k3,Res.obj (Obj.cells #[(.slice none 0 0),(.slice none 0 0),(.slice none 0 0),(.slice none 0 0)] 26 (0,0))) :: σ))))) (gr:=og70_5c3) (xs:=salesTo m xs i) (ys:=([(⟨g,a63.sellers⟩:Sale)]:List Sale)) Tryd.underlying24 Tryd.underlying24 (Ab Tryd.typeInfo59) rfl (Nat.le_of_ble_eq_true rfl) rfl rfl rfl rfl OG70_5c3 r93 (by simp only [List.length_append,List.length_map,List.length_range,List.length_cons,List.length_nil,salesTo_len,hasOf_len] at *; omega) fun v92 gr92 G92=>?_)
  refine Aa rfl (Cb Tryd.underlying26 rfl rfl ⟨_,Ab Tryd.typeInfo24,rfl⟩ (by decide) h70_5 rfl) ?_
  refine Bj (σ':=((k6,Res.obj (Obj.cells #[c7_0,c7_1,c7_2,ov70_5c3] 26 (0,0))) :: (gr92 ++ ((k67,Res.obj (Obj.cells #[(iV (g)),v65] 59 (0,0))) :: (og70_6 ++ ((k3,Res.obj (Obj.cells #[(.slice none 0 0),(.slice none 0 0),(.slice none 0 0),(.slice none 0 0)] 26 (0,0))) :: σ)))))) (Arx ((List.Perm.append_left gr92 ((List.Perm.append_left ([(k67,Res.obj (Obj.cells #[(iV (g)),v65] 59 (0,0)))]) (List.perm_append_comm_assoc og70_6 ([(k6,Res.obj (Obj.cells #[c7_0,c7_1,c7_2,ov70_5c3] 26 (0,0)))]) _)).trans (List.perm_append_comm_assoc ([(k67,Res.obj (Obj.cells #[(iV (g)),v65] 59 (0,0)))]) ([(k6,Res.obj (Obj.cells #[c7_0,c7_1,c7_2,ov70_5c3] 26 (0,0)))]) _))).trans (List.perm_append_comm_assoc gr92 ([(k6,Res.obj (Obj.cells #[c7_0,c7_1,c7_2,ov70_5c3] 26 (0,0)))]) _))) ?_
  refine Cx rfl (Cz (j:=0) (v:=v92) ⟨_,Ab Tryd.typeInfo24,rfl⟩ rfl rfl (Grow.single G92) rfl (Nat.le_of_ble_eq_true rfl) ?_)
  apply Ac
  apply k58
  refine Ag rfl rfl ?_
  refine Aa rfl (Ah (v:=(iV ((i:Int)))) h70_10) ?_
  refine Aa rfl (Br (p:=(i:Int)) (q:=1) rfl rfl (z:=(((i + 1):Nat):Int)) (Bo (by first | rfl | omega | (push_cast; rfl)) (by omega) (by omega))) ?_
  refine l_A (iV ((((i + 1):Nat):Int))) rfl rfl ?_
  refine Bj (σ':=((k67,Res.obj (Obj.cells #[(iV (g)),v65] 59 (0,0))) :: ((k6,Res.obj (Obj.cells #[c7_0,c7_1,c7_2,v92] 26 (0,0))) :: (gr92 ++ (og70_6 ++ ((k3,Res.obj (Obj.cells #[(.slice none 0 0),(.slice none 0 0),(.slice none 0 0),(.slice none 0 0)] 26 (0,0))) :: σ)))))) (Arx ((List.Perm.append_left ([(k6,Res.obj (Obj.cells #[c7_0,c7_1,c7_2,v92] 26 (0,0)))]) (List.perm_append_comm_assoc gr92 ([(k67,Res.obj (Obj.cells #[(iV (g)),v65] 59 (0,0)))]) _)).trans (List.perm_append_comm_assoc ([(k6,Res.obj (Obj.cells #[c7_0,c7_1,c7_2,v92] 26 (0,0)))]) ([(k67,Res.obj (Obj.cells #[(iV (g)),v65] 59 (0,0)))]) _))) ?_
  refine Bj Ghost.drop ?_
  refine Bj (σ':=((k3,Res.obj (Obj.cells #[(.slice none 0 0),(.slice none 0 0),(.slice none 0 0),(.slice none 0 0)] 26 (0,0))) :: ((k6,Res.obj (Obj.cells #[c7_0,c7_1,c7_2,v92] 26 (0,0))) :: (gr92 ++ (og70_6 ++ σ))))) (Arx ((List.Perm.append_left ([(k6,Res.obj (Obj.cells #[c7_0,c7_1,c7_2,v92] 26 (0,0)))]) ((List.Perm.append_left gr92 (List.perm_append_comm_assoc og70_6 ([(k3,Res.obj (Obj.cells #[(.slice none 0 0),(.slice none 0 0),(.slice none 0 0),(.slice none 0 0)] 26 (0,0)))]) _)).trans (List.perm_append_comm_assoc gr92 ([(k3,Res.obj (Obj.cells #[(.slice none 0 0),(.slice none 0 0),(.slice none 0 0),(.slice none 0 0)] 26 (0,0)))]) _))).trans (List.perm_append_comm_assoc ([(k6,Res.obj (Obj.cells #[c7_0,c7_1,c7_2,v92] 26 (0,0)))]) ([(k3,Res.obj (Obj.cells #[(.slice none 0 0),(.slice none 0 0),(.slice none 0 0),(.slice none 0 0)] 26 (0,0)))]) _))) ?_
  refine Bj (σ':=((k6,Res.obj (Obj.cells #[c7_0,c7_1,c7_2,v92] 26 (0,0))) :: ((k3,Res.obj (Obj.cells #[(.slice none 0 0),(.slice none 0 0),(.slice none 0 0),(.slice none 0 0)] 26 (0,0))) :: (gr92 ++ (og70_6 ++ σ))))) (Arx (List.perm_append_comm_assoc ([(k3,Res.obj (Obj.cells #[(.slice none 0 0),(.slice none 0 0),(.slice none 0 0),(.slice none 0 0)] 26 (0,0)))]) ([(k6,Res.obj (Obj.cells #[c7_0,c7_1,c7_2,v92] 26 (0,0)))]) _)) ?_
  refine Bj (σ':=(og70_6 ++ ((k6,Res.obj (Obj.cells #[c7_0,c7_1,c7_2,v92] 26 (0,0))) :: ((k3,Res.obj (Obj.cells #[(.slice none 0 0),(.slice none 0 0),(.slice none 0 0),(.slice none 0 0)] 26 (0,0))) :: (gr92 ++ σ))))) (Arx ((List.Perm.append_left ([(k6,Res.obj (Obj.cells #[c7_0,c7_1,c7_2,v92] 26 (0,0)))]) ((List.Perm.append_left ([(k3,Res.obj (Obj.cells #[(.slice none 0 0),(.slice none 0 0),(.slice none 0 0),(.slice none 0 0)] 26 (0,0)))]) (List.perm_append_comm_assoc gr92 og70_6 _)).trans (List.perm_append_comm_assoc ([(k3,Res.obj (Obj.cells #[(.slice none 0 0),(.slice none 0 0),(.slice none 0 0),(.slice none 0 0)] 26 (0,0)))]) og70_6 _))).trans (List.perm_append_comm_assoc ([(k6,Res.obj (Obj.cells #[c7_0,c7_1,c7_2,v92] 26 (0,0)))]) og70_6 _))) ?_
  refine Bj (σ':=(gr92 ++ (og70_6 ++ ((k6,Res.obj (Obj.cells #[c7_0,c7_1,c7_2,v92] 26 (0,0))) :: ((k3,Res.obj (Obj.cells #[(.slice none 0 0),(.slice none 0 0),(.slice none 0 0),(.slice none 0 0)] 26 (0,0))) :: σ))))) (Arx ((List.Perm.append_left og70_6 ((List.Perm.append_left ([(k6,Res.obj (Obj.cells #[c7_0,c7_1,c7_2,v92] 26 (0,0)))]) (List.perm_append_comm_assoc ([(k3,Res.obj (Obj.cells #[(.slice none 0 0),(.slice none 0 0),(.slice none 0 0),(.slice none 0 0)] 26 (0,0)))]) gr92 _)).trans (List.perm_append_comm_assoc ([(k6,Res.obj (Obj.cells #[c7_0,c7_1,c7_2,v92] 26 (0,0)))]) gr92 _))).trans (List.perm_append_comm_assoc og70_6 gr92 _))) ?_
  apply Ac
  refine ⟨_,?_,((i + 1)),(xs),v92,gr92,ov70_6,og70_6,rfl,rfl,(Arz (Arz l51 l70) l93),rfl,h70_1,h70_2,h70_4,h70_5,h70_6,rfl,(by omega),p70_1,p70_3,(fun s h1 h2=>p70_4 s (by omega) h2),(Ga (by rw [salesTo_succ,saleOf,sellers_at ha63,p70_2]) G92),(Ga (rfl) OG70_6),trivial⟩
  omega
 have q57:=of_decide_eq_false b57
 refine Bx ?_
 apply k49
 refine w_q rfl rfl fun K94 k94=>?_
 refine Bj (σ':=((k6,Res.obj (Obj.cells #[c7_0,c7_1,c7_2,ov51_5c3] 26 (0,0))) :: (og51_5c3 ++ (og51_6 ++ ((k3,Res.obj (Obj.cells #[(.slice none 0 0),(.slice none 0 0),(.slice none 0 0),(.slice none 0 0)] 26 (0,0))) :: σ))))) (Arx ((List.Perm.append_left og51_5c3 (List.perm_append_comm_assoc og51_6 ([(k6,Res.obj (Obj.cells #[c7_0,c7_1,c7_2,ov51_5c3] 26 (0,0)))]) _)).trans (List.perm_append_comm_assoc og51_5c3 ([(k6,Res.obj (Obj.cells #[c7_0,c7_1,c7_2,ov51_5c3] 26 (0,0)))]) _))) ?_
 refine Ae rfl (Xt (i:=0) (cs:=[c7_0,c7_1,c7_2,ov51_5c3]) (rs:=[]) ⟨_,Tryd.underlying26,rfl⟩ ⟨_,Ab Tryd.typeInfo26,rfl⟩ h51_5 rfl rfl rfl ?_)
 refine Bj (σ':=((k3,Res.obj (Obj.cells #[(.slice none 0 0),(.slice none 0 0),(.slice none 0 0),(.slice none 0 0)] 26 (0,0))) :: ((k6,Res.obj (Obj.cells #[c7_0,c7_1,c7_2,ov51_5c3] 26 (0,0))) :: (og51_5c3 ++ (og51_6 ++ σ))))) (Arx ((List.Perm.append_left ([(k6,Res.obj (Obj.cells #[c7_0,c7_1,c7_2,ov51_5c3] 26 (0,0)))]) ((List.Perm.append_left og51_5c3 (List.perm_append_comm_assoc og51_6 ([(k3,Res.obj (Obj.cells #[(.slice none 0 0),(.slice none 0 0),(.slice none 0 0),(.slice none 0 0)] 26 (0,0)))]) _)).trans (List.perm_append_comm_assoc og51_5c3 ([(k3,Res.obj (Obj.cells #[(.slice none 0 0),(.slice none 0 0),(.slice none 0 0),(.slice none 0 0)] 26 (0,0)))]) _))).trans (List.perm_append_comm_assoc ([(k6,Res.obj (Obj.cells #[c7_0,c7_1,c7_2,ov51_5c3] 26 (0,0)))]) ([(k3,Res.obj (Obj.cells #[(.slice none 0 0),(.slice none 0 0),(.slice none 0 0),(.slice none 0 0)] 26 (0,0)))]) _))) ?_
 refine Cx rfl (Ld (i:=0) (vs:=[c7_0,c7_1,c7_2,ov51_5c3]) (c':=[c7_0,c7_1,c7_2,ov51_5c3]) ⟨_,Ab Tryd.typeInfo26,rfl⟩ h51_4 rfl rfl rfl (Xv ⟨(Val.single_l i7_1),(Val.single_l i7_2),(Val.single_l i7_3),(Grow.single OG51_5c3),trivial⟩) rfl (Nat.le_of_ble_eq_true rfl) rfl ?_)
 apply Ac
 apply k94
 refine Aj (σ':=((k6,Res.obj (Obj.cells #[c7_0,c7_1,c7_2,ov51_5c3] 26 (0,0))) :: ((k3,Res.obj (Obj.cells #[c7_0,c7_1,c7_2,ov51_5c3] 26 (0,0))) :: (og51_5c3 ++ (og51_6 ++ σ))))) (Arx (List.perm_append_comm_assoc ([(k3,Res.obj (Obj.cells #[c7_0,c7_1,c7_2,ov51_5c3] 26 (0,0)))]) ([(k6,Res.obj (Obj.cells #[c7_0,c7_1,c7_2,ov51_5c3] 26 (0,0)))]) _)) ?_
 refine Aj Ghost.drop ?_
 refine Aj (σ':=(og51_6 ++ ((k3,Res.obj (Obj.cells #[c7_0,c7_1,c7_2,ov51_5c3] 26 (0,0))) :: (og51_5c3 ++ σ)))) (Arx ((List.Perm.append_left ([(k3,Res.obj (Obj.cells #[c7_0,c7_1,c7_2,ov51_5c3] 26 (0,0)))]) (List.perm_append_comm_assoc og51_5c3 og51_6 _)).trans (List.perm_append_comm_assoc ([(k3,Res.obj (Obj.cells #[c7_0,c7_1,c7_2,ov51_5c3] 26 (0,0)))]) og51_6 _))) ?_
 refine Gy OG51_6 fun ρ95 l95 r95=>?_
 replace i7_1:=Asa l95 i7_1
 replace i7_2:=Asa l95 i7_2
 replace i7_3:=Asa l95 i7_3
 replace OG51_5c3:=Grow.mono l95 OG51_5c3
 refine Aq ?_
 refine hret _ _ _ _ _ [(.agg #[c7_0,c7_1,c7_2,ov51_5c3])] ⟨(Qm ⟨_,Tryd.underlying26,rfl⟩ ⟨_,Ab Tryd.typeInfo26,rfl⟩ h51_4 (i:=0) rfl rfl),trivial⟩ Ghost.drop ?_
 refine ⟨(Arz (Arz (Arz l2 l12) l51) l95),c7_0,c7_1,c7_2,ov51_5c3,og51_5c3,xs,rfl,rfl,i7_1,i7_2,i7_3,Ga ?_ OG51_5c3,⟨_,p51_1,fun h hh=>(realH_le ok).2⟩,p51_2⟩
 rw [show i = m.sales.length by omega]
end Go.Proofs.YtoefdnbaklajeaaDoor

namespace Go.Proofs.YtoefdnbaklajeaaDoor
open Go
/-- The sales,of which the first ones have what cheats sold besides. -/
def cheTo (m:Market) (xs:List Int) (set:Nat) (more:List UH) (i:Nat):List Sale:=(List.range m.sales.length).map fun s=>if s < i then moreOf m xs set more s else saleOf m xs s
theorem cheTo_len {m:Market} {xs:List Int} {set i:Nat} {more:List UH}:(cheTo m xs set more i).length = m.sales.length:=by simp [cheTo]
theorem cheTo_0 {m:Market} {xs:List Int} {set:Nat} {more:List UH}:salesTo m xs m.sales.length = cheTo m xs set more 0:=by simp [cheTo,salesTo]
theorem cheTo_end {m:Market} {xs:List Int} {set i:Nat} {more:List UH} (h:i = m.sales.length):(⟨m.houses,m.marks,m.fields,cheTo m xs set more i⟩:Market) = cheM m xs set more:=by
 subst h
 unfold cheM cheTo
 congr 1
 refine List.map_congr_left fun s hs=>?_
 rw [if_pos (List.mem_range.1 hs)]
theorem cheTo_at {m:Market} {xs:List Int} {set i:Nat} {more:List UH} {s:Sale} (h:m.sales[i]? = some s):(cheTo m xs set more i)[i]? = some ⟨Fv xs i,s.sellers⟩:=by
 have hi:=(List.getElem?_eq_some_iff.1 h).1
 unfold cheTo
 rw [List.getElem?_map,List.getElem?_range hi,Option.map_some,if_neg (Nat.lt_irrefl _),saleOf,sellers_at h]
theorem cheTo_same {m:Market} {xs:List Int} {set i:Nat} {more:List UH} (h:touchAt m set i = false):cheTo m xs set more i = cheTo m xs set more (i + 1):=by
 unfold cheTo
 refine List.map_congr_left fun s _=>?_
 by_cases e:s = i
 ·subst e; rw [if_neg (Nat.lt_irrefl _),if_pos (Nat.lt_succ_self _),moreOf,h]; rfl
 ·by_cases e2:s < i
  ·rw [if_pos e2,if_pos (by omega)]
  ·rw [if_neg e2,if_neg (by omega)]
theorem cheTo_set {m:Market} {xs:List Int} {set i:Nat} {more:List UH} {s:Sale} (hs:m.sales[i]? = some s) (h:touchAt m set i = true):(cheTo m xs set more i).set i ⟨min 1000000 (Fv xs i + ((chooseN more i:Nat):Int)),s.sellers⟩ = cheTo m xs set more (i + 1):=by
 have hi:=(List.getElem?_eq_some_iff.1 hs).1
 apply List.ext_getElem?
 intro j
 rw [List.getElem?_set]
 by_cases e:i = j
 ·subst e
  rw [if_pos rfl,if_pos (by rw [cheTo_len]; exact hi)]
  unfold cheTo
  rw [List.getElem?_map,List.getElem?_range hi,Option.map_some,if_pos (Nat.lt_succ_self _),moreOf,if_pos h,sellers_at hs]
 ·rw [if_neg e]
  unfold cheTo
  rw [List.getElem?_map,List.getElem?_map]
  cases hr:(List.range m.sales.length)[j]? with
  | none=>rfl
  | some a =>
   obtain ⟨_,h2⟩:=List.getElem?_eq_some_iff.1 hr
   simp only [List.getElem_range] at h2
   subst h2
   simp only [Option.map_some]
   by_cases e2:j < i
   ·rw [if_pos e2,if_pos (by omega)]
   ·rw [if_neg e2,if_neg (by omega)]
theorem touch_any {m:Market} (ok:MarketOk m) {set i:Nat} {s:Sale} (hs:m.sales[i]? = some s):touchAt m set i = s.sellers.any fun x=>Cu set x.toNat:=by
 unfold touchAt Ds
 rw [hs]
 simp only
 rw [Bool.eq_iff_iff,List.any_eq_true,List.any_eq_true]
 constructor
 ·rintro ⟨h,_,hb⟩
  rw [Bool.and_eq_true] at hb
  obtain ⟨x,hx,he⟩:=List.any_eq_true.1 hb.1
  have he':x = (h:Int):=eq_of_beq he
  exact ⟨x,hx,by rw [he']; exact hb.2⟩
 ·rintro ⟨x,hx,hb⟩
  obtain ⟨k,hk⟩:=List.mem_iff_getElem?.1 hx
  have h1:=(ok.sale i s hs).2.2.1 k x hk
  have h5:=Hp ok
  refine ⟨x.toNat,List.mem_range.2 (by omega),?_⟩
  rw [Bool.and_eq_true]
  exact ⟨List.any_eq_true.2 ⟨x,hx,by rw [beq_iff_eq]; omega⟩,hb⟩
theorem any_take_succ {l:List Int} {p:Int→Bool} {k:Nat} {x:Int} (h:l[k]? = some x):(l.take (k + 1)).any p = ((l.take k).any p || p x):=by rw [Agl h,List.any_append]; simp
theorem c_CheatsX {m o:Market} {vm:Value} {ρ:Ro} {σ:Own} (e:o = m) (rm:Val ρ vm o) (hnr:Js σ):CallsH (CX true (Acu Tryd.prog)) 31 #[vm] ρ σ (fun w ρ' σ'=>Ro.le ρ ρ'∧σ' = σ∧∃ v0,w = (.tuple #[(iV (Akj m)),v0,(iV (Ch m))])∧Val ρ' v0 (Alc m:List Int)):=by
 subst e; exact Aio rm hnr
theorem che_count {set n:Nat} (h:set < 1 <<< n) (hn:n ≤ 5):De set = ((List.range n).map fun k=>(set >>> k) % 2).sum:=by
 have key:((List.range 6).all fun n=>(List.range (1 <<< n)).all fun x=>De x == ((List.range n).map fun k=>(x >>> k) % 2).sum) = true:=by decide +kernel
 have:=List.all_eq_true.1 (List.all_eq_true.1 key n (by simp; omega)) set (by simpa using h)
 simpa using this
set_option maxHeartbeats 4000000 in
set_option maxRecDepth 100000 in
theorem c_FakeCheats  {ρ:Ro} {σ:Own} {m:Market} {picks more:List UH} {cheats:Nat} {vm vk vo:Value} (hg:Glob ρ) (hnr:Js σ) (rm:Val ρ vm m) (rk:Val ρ vk picks) (hcheats:cheats < 256) (ro:Val ρ vo more):Agv (CX true (Acu Tryd.prog)) 5 8 [vm,vk,(.int .u8 ((cheats:Int))),vo] ρ σ (fun w ρ' σ'=>ρ' = ρ∧σ' = σ∧w = (.bool (true))):=by
 refine body_fn (n:=162) Tryd.func5 rfl rfl rfl rfl fun Q hret hnor=>?_
 refine w_q rfl rfl fun K1 k1=>?_
 refine Ae rfl (Eb (v:=vm) rfl fun k2=>?_)
 refine Bb (a:=m) rm fun ρ2 l2 r2=>?_
 replace rm:=Asa l2 rm
 replace rk:=Asa l2 rk
 replace ro:=Asa l2 ro
 replace hg:=Glob.mono l2 hg
 refine l_A (.bool (false)) rfl rfl ?_
 apply Ac
 apply k1
 refine Ai fun K3 k3=>?_
 refine w_q rfl rfl fun K4 k4=>?_
 refine Ak rfl (Ax Lj rfl r2) fun v5 r5=>?_
 refine Ae rfl (Cm (vs:=[v5]) (c_Vast r5) Tryd.func16 rfl rfl ⟨rfl,trivial⟩ fun w6 ρ6 σ6 hc6=>?_)
 obtain ⟨hr6,hs6,b6_,hw6⟩:=hc6
 replace hr6:=hr6.symm; replace hs6:=hs6.symm; subst hr6 hs6 hw6
 refine l_M (.bool (b6_)) rfl rfl ?_
 refine Cn (b6_) (fun b7=>?_) (fun b7=>?_)
 ·refine Ap (Bl rfl rfl rfl b7) ?_
  refine Ap (Bl rfl rfl rfl b7) ?_
  refine Ap (Bl rfl rfl rfl b7) ?_
  refine Aa rfl (Bt rfl b7 (v:=(.bool (true))) rfl) ?_
  refine l_M (.bool (true)) rfl rfl ?_
  refine Ap (Bl rfl rfl rfl rfl) ?_
  refine Ap (Bl rfl rfl rfl rfl) ?_
  refine Ap (Bl rfl rfl rfl rfl) ?_
  refine Ap (Bl rfl rfl rfl rfl) ?_
  refine Aa rfl (Bt rfl rfl (v:=(.bool (true))) rfl) ?_
  apply Ac
  apply k4
  refine Co rfl rfl ?_
  refine w_q rfl rfl fun K8 k8=>?_
  refine Ae rfl (Bn (vs:=[]) (v:=(.bool (true))) (c_tells hg hnr) Tryd.func17 rfl rfl trivial ?_)
  refine l_A (.bool (true)) rfl rfl ?_
  apply Ac
  apply k8
  refine Aj (Arw l2) ?_
  refine Aq ?_
  refine hret _ _ _ ?_
  refine ⟨rfl,rfl,Eq.trans (b:=(.bool (true))) rfl ?_⟩
  rfl
 refine Ak (Ar rfl rfl rfl b7) (Ax Lj rfl r2) fun v9 r9=>?_
 refine Ae (Ar rfl rfl rfl b7) (Bn (vs:=[v9]) (v:=(iV (Ch m))) (c_CheckMarket r9) Tryd.func28 rfl rfl ⟨rfl,trivial⟩ ?_)
 refine Aa (Ar rfl rfl rfl b7) (Dg (p:=Ch m) (q:=0) rfl rfl) ?_
 refine Aa rfl (Bm rfl b7 (v:=(.bool (Ch m != 0))) rfl) ?_
 refine l_M (.bool (Ch m != 0)) rfl rfl ?_
 refine Cn (Ch m != 0) (fun b10=>?_) (fun b10=>?_)
 ·have q10:=Mb b10
  refine Ap (Bl rfl rfl rfl b10) ?_
  refine Ap (Bl rfl rfl rfl b10) ?_
  refine Ap (Bl rfl rfl rfl b10) ?_
  refine Ap (Bl rfl rfl rfl b10) ?_
  refine Aa rfl (Bt rfl b10 (v:=(.bool (true))) rfl) ?_
  apply Ac
  apply k4
  refine Co rfl rfl ?_
  refine w_q rfl rfl fun K11 k11=>?_
  refine Ae rfl (Bn (vs:=[]) (v:=(.bool (true))) (c_tells hg hnr) Tryd.func17 rfl rfl trivial ?_)
  refine l_A (.bool (true)) rfl rfl ?_
  apply Ac
  apply k11
  refine Aj (Arw l2) ?_
  refine Aq ?_
  refine hret _ _ _ ?_
  refine ⟨rfl,rfl,Eq.trans (b:=(.bool (true))) rfl ?_⟩
  rfl
 have hm0:=Jh b10
 have ok:=Qv hm0
 have hn8:=ok.nsales
 have hh5:=Hp ok
 have hsh:=Ame hh5
 have q10:=Jh b10
 refine Ak (Ar rfl rfl rfl b10) (Ay Market.f_houses Tryd.underlying26 rfl rfl Hu (by decide) rfl r2) fun v12 r12=>?_
 refine Ak (Ar rfl rfl rfl b10) (Ax Hu rfl r12) fun v13 r13=>?_
 have g14:=Val.len r13
 refine Aa (Ar rfl rfl rfl b10) (Ce (el:=9) Tryd.underlying22 rfl r13) ?_
 refine Aa (Ar rfl rfl rfl b10) (Ek (p:=((m.houses.length:Nat):Int)) (q:=0) rfl rfl) ?_
 refine Aa rfl (Bm rfl b10 (v:=(.bool (((m.houses.length:Nat):Int) == 0))) rfl) ?_
 apply Ac
 apply k4
 refine As (t:=((m.houses.length:Nat):Int) == 0) rfl (fun b15=>?_) (fun b15=>?_)
 ·have q15:=Jo b15
  refine w_q rfl rfl fun K16 k16=>?_
  refine Ae rfl (Bn (vs:=[]) (v:=(.bool (true))) (c_tells hg hnr) Tryd.func17 rfl rfl trivial ?_)
  refine l_A (.bool (true)) rfl rfl ?_
  apply Ac
  apply k16
  refine Aj (Arw l2) ?_
  refine Aq ?_
  refine hret _ _ _ ?_
  refine ⟨rfl,rfl,Eq.trans (b:=(.bool (true))) rfl ?_⟩
  rfl
 have q15:=La b15
 refine Al ?_
 apply k3
 refine w_q rfl rfl fun K17 k17=>?_
 refine Ak rfl (Ax Lj rfl r2) fun v18 r18=>?_
 refine l_M vk rfl rfl ?_
 refine Ae rfl (Cm (vs:=[v18,vk]) (c_honest r18 rk ok) Tryd.func29 rfl rfl ⟨rfl,rfl,trivial⟩ fun w19 ρ19 σ19 hc19=>?_)
 obtain ⟨l19,vh19,vmk19,vf19,vs19,gr19,xs,w19e,s19,rh19,rmk19,rf19,G19,hH⟩:=hc19
 subst s19 w19e
 replace rk:=Asa l19 rk
 replace ro:=Asa l19 ro
 replace hg:=Glob.mono l19 hg
 replace r2:=Arv l19 r2
 replace r18:=Asa l19 r18
 have hsm:∀ s,s < 8→0 ≤ Fv xs s∧Fv xs s ≤ 1000000:=fun s hs=>(by obtain ⟨cap,F,_⟩:=hH.flow; exact ⟨sold_le F hs,hH.small s hs⟩)
 refine Ae rfl (Ct Aoj fun k20=>?_)
 refine Cx rfl (Ld (i:=0) (vs:=[vh19,vmk19,vf19,vs19]) (c':=[vh19,vmk19,vf19,vs19]) ⟨_,Ab Tryd.typeInfo26,rfl⟩ rfl rfl rfl rfl (Xv ⟨(Val.single_l rh19),(Val.single_l rmk19),(Val.single_l rf19),(Grow.single G19),trivial⟩) rfl (Nat.le_of_ble_eq_true rfl) rfl ?_)
 apply Ac
 apply k17
 refine w_q rfl rfl fun K21 k21=>?_
 refine l_M (.int .u8 ((cheats:Int))) rfl rfl ?_
 refine Aa rfl (Abu (p:=(cheats:Int)) (z:=(cheats:Int)) Tryd.underlying5 Tryd.underlying3 rfl (Bo rfl (by omega) (by omega))) ?_
 refine Ak rfl (Ay Market.f_houses Tryd.underlying26 rfl rfl Hu (by decide) rfl r2) fun v22 r22=>?_
 refine Ak rfl (Ax Hu rfl r22) fun v23 r23=>?_
 have g24:=Val.len r23
 refine Aa rfl (Ce (el:=9) Tryd.underlying22 rfl r23) ?_
 refine Aa rfl (Ly (p:=1) (q:=m.houses.length) rfl rfl rfl (by omega) (z:=(((1 <<< m.houses.length):Nat):Int)) (Bo rfl (by omega) (by omega))) ?_
 refine Aa rfl (y_rem (p:=(cheats:Int)) (q:=(((1 <<< m.houses.length):Nat):Int)) rfl rfl (by omega) (z:=(((cheats % (1 <<< m.houses.length)):Nat):Int)) rfl) ?_
 obtain ⟨set,hset_⟩:∃ z:Nat,z = (cheats % (1 <<< m.houses.length)):=⟨_,rfl⟩
 refine Aa rfl (Cp (v:=(iV (set:Int))) ((show _ = Value.int .i64 ((((cheats % (1 <<< m.houses.length))):Nat):Int) from rfl).trans (by rw [hset_]))) ?_
 have hset:set < 1 <<< m.houses.length:=by rw [hset_]; exact Nat.mod_lt _ (by omega)
 have hset32:set < 32:=by omega
 apply Ac
 apply k21
 refine Ai fun K25 k25=>?_
 refine w_q rfl rfl fun K26 k26=>?_
 refine l_A (iV (0)) rfl rfl ?_
 apply Ac
 apply k26
 refine Ao ?_
 refine Aj (σ':=(gr19 ++ ((k20,Res.obj (Obj.cells #[vh19,vmk19,vf19,vs19] 26 (0,0))) :: σ))) (Arx (List.perm_append_comm_assoc ([(k20,Res.obj (Obj.cells #[vh19,vmk19,vf19,vs19] 26 (0,0)))]) gr19 _)) ?_
 refine Cc (fun mm ee dd ρ' σ'=>∃ (i:Nat) (ov27_9c3:Value) (og27_9c3:Own),(m.sales.length - i) = mm∧[] = dd∧Ro.le ρ19 ρ'∧(og27_9c3 ++ ((k20,Res.obj (Obj.cells #[vh19,vmk19,vf19,ov27_9c3] 26 (0,0))) :: σ)) = σ'∧ee 3 = vo∧ee 4 = (.pointer (some ⟨k2,0,none⟩))∧ee 9 = (.pointer (some ⟨k20,0,none⟩))∧ee 10 = (iV ((set:Int)))∧ee 11 = (iV ((i:Int)))∧(i ≤ m.sales.length)∧Grow ρ' 59 ov27_9c3 (cheTo m xs set more i) og27_9c3∧True) (m:=_) ⟨0,vs19,gr19,rfl,rfl,Ary,rfl,rfl,rfl,rfl,rfl,rfl,(Nat.zero_le _),(Ga cheTo_0 G19),trivial⟩ ?_
 rintro m27 e27 _ ρ27 _ ⟨i,ov27_9c3,og27_9c3,rfl,rfl,l27,rfl,h27_3,h27_4,h27_9,h27_10,h27_11,p27_0,OG27_9c3,_⟩
 replace ro:=Asa l27 ro
 replace hg:=Glob.mono l27 hg
 replace r2:=Arv l27 r2
 replace rh19:=Asa l27 rh19
 replace rmk19:=Asa l27 rmk19
 replace rf19:=Asa l27 rf19
 have hcl:=cheTo_len (m:=m) (xs:=xs) (set:=set) (i:=i) (more:=more)
 refine Ai fun K28 k28=>?_
 refine w_q rfl rfl fun K29 k29=>?_
 refine Aa rfl (Ah (v:=(iV ((i:Int)))) h27_11) ?_
 refine Aa rfl (Cb Tryd.underlying26 rfl rfl ⟨_,Ab Tryd.typeInfo24,rfl⟩ (by decide) h27_9 rfl) ?_
 refine Ae rfl (Gv (v:=ov27_9c3) ⟨_,Tryd.underlying24,rfl⟩ rfl (List.mem_append_right _ (List.mem_cons_self ..)) rfl ?_)
 have g30:=Grow.len OG27_9c3
 refine Aa rfl (Aht (el':=59) Tryd.underlying24 rfl OG27_9c3) ?_
 refine Aa rfl (Da (p:=(i:Int)) (q:=(((cheTo m xs set more i).length:Nat):Int)) rfl rfl) ?_
 apply Ac
 apply k29
 refine As (t:=decide ((i:Int) < (((cheTo m xs set more i).length:Nat):Int))) rfl (fun b31=>?_) (fun b31=>?_)
 ·have q31:=of_decide_eq_true b31
  refine Al ?_
  apply k28
  refine Ai fun K32 k32=>?_
  refine Ao ?_
  refine w_q rfl rfl fun K33 k33=>?_
  refine l_A (.bool (false)) rfl rfl ?_
  apply Ac
  apply k33
  refine Ai fun K34 k34=>?_
  refine w_q rfl rfl fun K35 k35=>?_
  refine l_A (iV (0)) rfl rfl ?_
  apply Ac
  apply k35
  refine Ao ?_
  obtain ⟨a36,ha36⟩:=Ed (xs:=cheTo m xs set more i) (i:=i) (by omega)
  obtain ⟨s37,hs37⟩:=Ed (xs:=m.sales) (i:=i) (by omega)
  obtain rfl:=Option.some.inj (ha36.symm.trans (cheTo_at hs37))
  have hsi37:=hsm i (by omega)
  have gs_s37:=ok.sale _ _ hs37
  refine Cc (fun mm ee dd ρ' σ'=>∃ (k:Nat) (tb:Bool),(s37.sellers.length - k) = mm∧[] = dd∧ρ27 = ρ'∧(og27_9c3 ++ ((k20,Res.obj (Obj.cells #[vh19,vmk19,vf19,ov27_9c3] 26 (0,0))) :: σ)) = σ'∧ee 3 = vo∧ee 4 = (.pointer (some ⟨k2,0,none⟩))∧ee 9 = (.pointer (some ⟨k20,0,none⟩))∧ee 10 = (iV ((set:Int)))∧ee 11 = (iV ((i:Int)))∧ee 12 = (.bool (tb))∧ee 13 = (iV ((k:Int)))∧(k ≤ s37.sellers.length)∧(tb = (s37.sellers.take k).any (fun x=>Cu set x.toNat))∧True) (m:=_) ⟨0,false,rfl,rfl,rfl,rfl,h27_3,h27_4,h27_9,h27_10,h27_11,rfl,rfl,(Nat.zero_le _),(by simp),trivial⟩ ?_
  rintro m38 e38 _ _ _ ⟨k,tb,rfl,rfl,rfl,rfl,h38_3,h38_4,h38_9,h38_10,h38_11,h38_12,h38_13,p38_0,p38_1,_⟩
  refine Ai fun K39 k39=>?_
  refine w_q rfl rfl fun K40 k40=>?_
  refine Aa rfl (Ah (v:=(iV ((k:Int)))) h38_13) ?_
  refine Aa rfl (Cb Tryd.underlying26 rfl rfl ⟨_,Ab Tryd.typeInfo24,rfl⟩ (by decide) h38_9 rfl) ?_
  refine Ae rfl (Gv (v:=ov27_9c3) ⟨_,Tryd.underlying24,rfl⟩ rfl (List.mem_append_right _ (List.mem_cons_self ..)) rfl ?_)
  refine Aa rfl (Ah (v:=(iV ((i:Int)))) h38_11) ?_
  refine Aa rfl (Nm i Tryd.underlying24 Su.info rfl OG27_9c3 (q:=(i:Int)) rfl rfl (by first | omega | (rw [cheTo_len]; omega)) rfl) ?_
  refine Aa rfl (Cb (off':=i * Dat.k Sale + 1) Tryd.underlying59 rfl rfl ⟨_,Ab Tryd.typeInfo30,rfl⟩ (by decide) rfl rfl) ?_
  refine l_valOE ⟨Ary,fun _ h=>h⟩ rfl (y_loadG Sale.f_sellers rfl OG27_9c3 (fun p hp=>List.mem_append_left _ hp) ha36 ⟨_,Tryd.underlying30,rfl⟩ rfl rfl) fun v41 r41=>?_
  replace r41:Val ρ27 v41 (s37.sellers:List Int):=r41
  have g42:=Val.len r41
  refine Aa rfl (Ce (el:=3) Tryd.underlying30 rfl r41) ?_
  refine Aa rfl (Da (p:=(k:Int)) (q:=((s37.sellers.length:Nat):Int)) rfl rfl) ?_
  apply Ac
  apply k40
  refine As (t:=decide ((k:Int) < ((s37.sellers.length:Nat):Int))) rfl (fun b43=>?_) (fun b43=>?_)
  ·have q43:=of_decide_eq_true b43
   refine Al ?_
   apply k39
   refine Ai fun K44 k44=>?_
   refine Ao ?_
   refine Ag rfl rfl ?_
   refine Aa rfl (Ah (v:=(.bool (tb))) h38_12) ?_
   refine l_M (.bool (tb)) rfl rfl ?_
   refine Cn (tb) (fun b45=>?_) (fun b45=>?_)
   ·refine Ap (Bl rfl rfl rfl b45) ?_
    refine Ap (Bl rfl rfl rfl b45) ?_
    refine Ap (Bl rfl rfl rfl b45) ?_
    refine Ap (Bl rfl rfl rfl b45) ?_
    refine Ap (Bl rfl rfl rfl b45) ?_
    refine Ap (Bl rfl rfl rfl b45) ?_
    refine Ap (Bl rfl rfl rfl b45) ?_
    refine Ap (Bl rfl rfl rfl b45) ?_
    refine Ap (Bl rfl rfl rfl b45) ?_
    refine Ap (Bl rfl rfl rfl b45) ?_
    refine Ap (Bl rfl rfl rfl b45) ?_
    refine Ap (Bl rfl rfl rfl b45) ?_
    refine Ap (Bl rfl rfl rfl b45) ?_
    refine Aa rfl (Bt rfl b45 (v:=(.bool (true))) rfl) ?_
    refine l_A (.bool (true)) rfl rfl ?_
    apply Ac
    apply k44
    refine Ag rfl rfl ?_
    refine Aa rfl (Ah (v:=(iV ((k:Int)))) h38_13) ?_
    refine Aa rfl (Br (p:=(k:Int)) (q:=1) rfl rfl (z:=(((k + 1):Nat):Int)) (Bo (by first | rfl | omega | (push_cast; rfl)) (by omega) (by omega))) ?_
    refine l_A (iV ((((k + 1):Nat):Int))) rfl rfl ?_
    apply Ac
    refine ⟨_,?_,((k + 1)),(true),rfl,rfl,rfl,rfl,h38_3,h38_4,h38_9,h38_10,h38_11,rfl,rfl,(by omega),(by obtain ⟨z,hz⟩:=Ed (xs:=s37.sellers) (i:=k) (by omega); rw [any_take_succ hz,← p38_1]; simp [b7,b10,b15,b31,b43,b45]),trivial⟩
    omega
   refine Aa (Ar rfl rfl rfl b45) (Ah (v:=(iV ((set:Int)))) h38_10) ?_
   refine Aa (Ar rfl rfl rfl b45) (Cb Tryd.underlying26 rfl rfl ⟨_,Ab Tryd.typeInfo24,rfl⟩ (by decide) h38_9 rfl) ?_
   refine Ae (Ar rfl rfl rfl b45) (Gv (v:=ov27_9c3) ⟨_,Tryd.underlying24,rfl⟩ rfl (List.mem_append_right _ (List.mem_cons_self ..)) rfl ?_)
   refine Aa (Ar rfl rfl rfl b45) (Ah (v:=(iV ((i:Int)))) h38_11) ?_
   refine Aa (Ar rfl rfl rfl b45) (Nm i Tryd.underlying24 Su.info rfl OG27_9c3 (q:=(i:Int)) rfl rfl (by first | omega | (rw [cheTo_len]; omega)) rfl) ?_
   refine Aa (Ar rfl rfl rfl b45) (Cb (off':=i * Dat.k Sale + 1) Tryd.underlying59 rfl rfl ⟨_,Ab Tryd.typeInfo30,rfl⟩ (by decide) rfl rfl) ?_
   refine l_valOE ⟨Ary,fun _ h=>h⟩ (Ar rfl rfl rfl b45) (y_loadG Sale.f_sellers rfl OG27_9c3 (fun p hp=>List.mem_append_left _ hp) ha36 ⟨_,Tryd.underlying30,rfl⟩ rfl rfl) fun v46 r46=>?_
   replace r46:Val ρ27 v46 (s37.sellers:List Int):=r46
   refine Aa (Ar rfl rfl rfl b45) (Ah (v:=(iV ((k:Int)))) h38_13) ?_
   obtain ⟨a48,ha48⟩:=Ed (xs:=s37.sellers) (i:=k) (by first | omega | (rw [cheTo_len]; omega))
   have gt_a48:=gs_s37.2.2.1 _ _ ha48
   obtain ⟨x49,hx49⟩:∃ x:Nat,a48 = (x:Int):=⟨a48.toNat,by omega⟩
   subst hx49
   refine Ak (Ar rfl rfl rfl b45) (Ci k Tryd.underlying30 ty3 rfl r46 (q:=(k:Int)) rfl rfl ha48) fun v47 r47=>?_
   have ⟨g50a,g50b⟩:=At.rng r47
   refine Aa (Ar rfl rfl rfl b45) (Bc ty3 rfl r47) ?_
   refine Aa (Ar rfl rfl rfl b45) (Jq (p:=set) (q:=x49) rfl rfl rfl (by omega)) ?_
   refine Aa (Ar rfl rfl rfl b45) (Qi (p:=(set >>> x49)) (q:=1) rfl rfl (Nat.lt_of_le_of_lt (Nat.shiftRight_le _ _) (by omega))) ?_
   refine Aa (Ar rfl rfl rfl b45) (Ek (p:=((((set >>> x49) &&& 1):Nat):Int)) (q:=1) rfl rfl) ?_
   refine Aa rfl (Bm rfl b45 (v:=(.bool (((((set >>> x49) &&& 1):Nat):Int) == 1))) rfl) ?_
   refine l_A (.bool (((((set >>> x49) &&& 1):Nat):Int) == 1)) rfl rfl ?_
   apply Ac
   apply k44
   refine Ag rfl rfl ?_
   refine Aa rfl (Ah (v:=(iV ((k:Int)))) h38_13) ?_
   refine Aa rfl (Br (p:=(k:Int)) (q:=1) rfl rfl (z:=(((k + 1):Nat):Int)) (Bo (by first | rfl | omega | (push_cast; rfl)) (by omega) (by omega))) ?_
   refine l_A (iV ((((k + 1):Nat):Int))) rfl rfl ?_
   apply Ac
   refine ⟨_,?_,((k + 1)),(((((set >>> x49) &&& 1):Nat):Int) == 1),rfl,rfl,rfl,rfl,h38_3,h38_4,h38_9,h38_10,h38_11,rfl,rfl,(by omega),(by rw [bitA,any_take_succ ha48,← p38_1]; simp [b7,b10,b15,b31,b43,b45,Int.toNat_natCast]),trivial⟩
   omega
  have q43:=of_decide_eq_false b43
  refine Bx ?_
  apply k34
  refine w_q rfl rfl fun K51 k51=>?_
  refine Aa rfl (Ah (v:=(.bool (tb))) h38_12) ?_
  apply Ac
  apply k51
  refine As (t:=tb) rfl (fun b52=>?_) (fun b52=>?_)
  ·refine o_begin ((og27_9c3 ++ ((k20,Res.obj (Obj.cells #[vh19,vmk19,vf19,ov27_9c3] 26 (0,0))) :: []))) [0,1,2,3,4,5,6,7,8,9,10,11,12,13,15] (by kernel_rfl) rfl rfl ?_
   refine o_val (i:=0) [o1,o0,o0,o0,o0,o0,o0,o0,o0,o0,o0,o0,o0,o0,o0,o0,o0] rfl (by kernel_rfl) rfl ⟨Ary,(by repeat first | exact subN | refine subC ?_ | refine subG ?_ | refine subB ?_ | refine subL ?_)⟩ rfl (Yld.o (Cb Tryd.underlying26 rfl rfl ⟨_,Ab Tryd.typeInfo24,rfl⟩ (by decide) h38_9 rfl)) ?_
   refine o_val (i:=1) [o1,o1,o0,o0,o0,o0,o0,o0,o0,o0,o0,o0,o0,o0,o0,o0,o0] rfl (by kernel_rfl) rfl ⟨Ary,(by repeat first | exact subN | refine subC ?_ | refine subG ?_ | refine subB ?_ | refine subL ?_)⟩ rfl (y_loadOC (v:=ov27_9c3) ⟨_,Tryd.underlying24,rfl⟩ rfl (List.mem_append_right _ (List.mem_cons_self ..)) rfl) ?_
   refine o_val (i:=2) [o1,o1,o1,o0,o0,o0,o0,o0,o0,o0,o0,o0,o0,o0,o0,o0,o0] rfl (by kernel_rfl) rfl ⟨Ary,(by repeat first | exact subN | refine subC ?_ | refine subG ?_ | refine subB ?_ | refine subL ?_)⟩ rfl (Yld.o (Ah (v:=(iV ((i:Int)))) h38_11)) ?_
   refine o_val (i:=3) [o1,o1,o1,o1,o0,o0,o0,o0,o0,o0,o0,o0,o0,o0,o0,o0,o0] rfl (by kernel_rfl) rfl ⟨Ary,(by repeat first | exact subN | refine subC ?_ | refine subG ?_ | refine subB ?_ | refine subL ?_)⟩ rfl (Yld.o (Cb Tryd.underlying26 rfl rfl ⟨_,Ab Tryd.typeInfo24,rfl⟩ (by decide) h38_9 rfl)) ?_
   refine o_val (i:=4) [o1,o1,o1,o1,o1,o0,o0,o0,o0,o0,o0,o0,o0,o0,o0,o0,o0] rfl (by kernel_rfl) rfl ⟨Ary,(by repeat first | exact subN | refine subC ?_ | refine subG ?_ | refine subB ?_ | refine subL ?_)⟩ rfl (y_loadOC (v:=ov27_9c3) ⟨_,Tryd.underlying24,rfl⟩ rfl (List.mem_append_right _ (List.mem_cons_self ..)) rfl) ?_
   refine o_val (i:=5) [o1,o1,o1,o1,o1,o1,o0,o0,o0,o0,o0,o0,o0,o0,o0,o0,o0] rfl (by kernel_rfl) rfl ⟨Ary,(by repeat first | exact subN | refine subC ?_ | refine subG ?_ | refine subB ?_ | refine subL ?_)⟩ rfl (Yld.o (Ah (v:=(iV ((i:Int)))) h38_11)) ?_
   refine o_val (i:=6) [o1,o1,o1,o1,o1,o1,o1,o0,o0,o0,o0,o0,o0,o0,o0,o0,o0] rfl (by kernel_rfl) rfl ⟨Ary,(by repeat first | exact subN | refine subC ?_ | refine subG ?_ | refine subB ?_ | refine subL ?_)⟩ rfl (Yld.o (Nm i Tryd.underlying24 Su.info rfl OG27_9c3 (q:=(i:Int)) rfl rfl (by first | omega | (rw [cheTo_len]; omega)) rfl)) ?_
   refine o_val (i:=7) [o1,o1,o1,o1,o1,o1,o1,o1,o0,o0,o0,o0,o0,o0,o0,o0,o0] rfl (by kernel_rfl) rfl ⟨Ary,(by repeat first | exact subN | refine subC ?_ | refine subG ?_ | refine subB ?_ | refine subL ?_)⟩ rfl (Yld.o (Cb (off':=i * Dat.k Sale + 0) Tryd.underlying59 rfl rfl ⟨_,Ab Tryd.typeInfo3,rfl⟩ (by decide) rfl rfl)) ?_
   have ⟨g53a,g53b⟩:=grow_g64 OG27_9c3 ha36
   refine o_val (i:=8) [o1,o1,o1,o1,o1,o1,o1,o1,o1,o0,o0,o0,o0,o0,o0,o0,o0] rfl (by kernel_rfl) rfl ⟨Ary,(by repeat first | exact subN | refine subC ?_ | refine subG ?_ | refine subB ?_ | refine subL ?_)⟩ rfl (y_loadGg OG27_9c3 (fun p hp=>List.mem_append_left _ hp) ha36 ⟨_,Tryd.underlying3,rfl⟩ rfl rfl) ?_
   refine o_val (i:=9) [o1,o1,o1,o1,o1,o1,o1,o1,o1,o1,o0,o0,o0,o0,o0,o0,o0] rfl (by kernel_rfl) rfl ⟨Ary,(by repeat first | exact subN | refine subC ?_ | refine subG ?_ | refine subB ?_ | refine subL ?_)⟩ rfl (Yld.o (Ah (v:=vo) h38_3)) ?_
   refine o_val1 (i:=10) [o1,o1,o1,o1,o1,o1,o1,o1,o1,o1,o1,o0,o0,o0,o0,o0,o0] rfl (by kernel_rfl) rfl ⟨Ary,(by repeat first | exact subN | refine subC ?_ | refine subG ?_ | refine subB ?_ | refine subL ?_)⟩ rfl (Yld.o (Ah (v:=(iV ((i:Int)))) h38_11)) ⟨Ary,(by repeat first | exact subN | refine subC ?_ | refine subG ?_ | refine subB ?_ | refine subL ?_)⟩ ?_
   have hch54:=chooseN_lt (l:=more) (k:=i)
   refine o_run (i:=11) [o1,o1,o1,o1,o1,o1,o1,o1,o1,o1,o1,o1,o0,o0,o0,o0,o0] rfl (by kernel_rfl) rfl rfl (Bn (vs:=[vo,(iV ((i:Int)))]) (v:=(iV ((((chooseN more i):Nat):Int)))) (c_choose ro) Tryd.func30 rfl rfl ⟨rfl,rfl,trivial⟩ ⟨⟨Ary,(by repeat first | exact subN | refine subC ?_ | refine subG ?_ | refine subB ?_ | refine subL ?_)⟩,?_⟩)
   refine o_val1 (i:=12) [o1,o1,o1,o1,o1,o1,o1,o1,o1,o1,o1,o1,o1,o0,o0,o0,o0] rfl (by kernel_rfl) rfl ⟨Ary,(by repeat first | exact subN | refine subC ?_ | refine subG ?_ | refine subB ?_ | refine subL ?_)⟩ rfl (Yld.o (Br (p:=Fv xs i) (q:=(((chooseN more i):Nat):Int)) rfl rfl (z:=(Fv xs i + (((chooseN more i):Nat):Int))) (Bo (by rfl) (by omega) (by omega)))) ⟨Ary,(by repeat first | exact subN | refine subC ?_ | refine subG ?_ | refine subB ?_ | refine subL ?_)⟩ ?_
   refine o_val1 (i:=13) [o1,o1,o1,o1,o1,o1,o1,o1,o1,o1,o1,o1,o1,o1,o0,o0,o0] rfl (by kernel_rfl) rfl ⟨Ary,(by repeat first | exact subN | refine subC ?_ | refine subG ?_ | refine subB ?_ | refine subL ?_)⟩ rfl (Yld.o (Aju (p:=1000000) (q:=(Fv xs i + (((chooseN more i):Nat):Int))) rfl rfl)) ⟨Ary,(by repeat first | exact subN | refine subC ?_ | refine subG ?_ | refine subB ?_ | refine subL ?_)⟩ ?_
   refine o_val1 (i:=14) [o1,o1,o1,o1,o1,o1,o1,o1,o1,o1,o1,o1,o1,o1,o1,o0,o0] rfl (by kernel_rfl) rfl ⟨Ary,(by repeat first | exact subN | refine subC ?_ | refine subG ?_ | refine subB ?_ | refine subL ?_)⟩ rfl (Yld.o (Nm i Tryd.underlying24 Su.info rfl OG27_9c3 (q:=(i:Int)) rfl rfl (by first | omega | (rw [cheTo_len]; omega)) rfl)) ⟨Ary,(by repeat first | exact subN | refine subC ?_ | refine subG ?_ | refine subB ?_ | refine subL ?_)⟩ ?_
   refine o_val1 (i:=15) [o1,o1,o1,o1,o1,o1,o1,o1,o1,o1,o1,o1,o1,o1,o1,o1,o0] rfl (by kernel_rfl) rfl ⟨Ary,(by repeat first | exact subN | refine subC ?_ | refine subG ?_ | refine subB ?_ | refine subL ?_)⟩ rfl (Yld.o (Cb (off':=i * Dat.k Sale + 0) Tryd.underlying59 rfl rfl ⟨_,Ab Tryd.typeInfo3,rfl⟩ (by decide) rfl rfl)) ⟨Ary,(by repeat first | exact subN | refine subC ?_ | refine subG ?_ | refine subB ?_ | refine subL ?_)⟩ ?_
   refine o_runLN (i:=16) [o1,o1,o1,o1,o1,o1,o1,o1,o1,o1,o1,o1,o1,o1,o1,o1,o1] rfl (by kernel_rfl) (by kernel_rfl) rfl rfl (Jm (σ:=((k20,Res.obj (Obj.cells #[vh19,vmk19,vf19,ov27_9c3] 26 (0,0))) :: σ)) (gr:=og27_9c3) (i:=i) (o:=0) (v:=ov27_9c3) (w:=(iV ((min 1000000 ((Fv xs i + (((chooseN more i):Nat):Int))))))) (z:=(⟨Fv xs i,s37.sellers⟩:Sale)) (a:=(⟨(min 1000000 ((Fv xs i + (((chooseN more i):Nat):Int)))),s37.sellers⟩:Sale)) ⟨_,Ab Tryd.typeInfo3,rfl⟩ rfl rfl (by decide) rfl rfl OG27_9c3 ha36 (fun cs h=>sale_set0 (z:=(⟨Fv xs i,s37.sellers⟩:Sale)) (by constructor <;> omega) cs h) fun gr55 G55=>?_)
   refine o_end rfl ?_
   apply k32
   refine Ag rfl rfl ?_
   refine Aa rfl (Ah (v:=(iV ((i:Int)))) h38_11) ?_
   refine Aa rfl (Br (p:=(i:Int)) (q:=1) rfl rfl (z:=(((i + 1):Nat):Int)) (Bo (by first | rfl | omega | (push_cast; rfl)) (by omega) (by omega))) ?_
   refine l_A (iV ((((i + 1):Nat):Int))) rfl rfl ?_
   apply Ac
   refine ⟨_,?_,((i + 1)),ov27_9c3,gr55,rfl,rfl,l27,rfl,h38_3,h38_4,h38_9,h38_10,rfl,(by omega),(Ga (cheTo_set hs37 ((touch_any ok hs37).trans ((by rw [List.take_of_length_le (by omega)] at p38_1; exact p38_1.symm:_ = tb).trans b52))) G55),trivial⟩
   omega
  refine Al ?_
  apply k32
  refine Ag rfl rfl ?_
  refine Aa rfl (Ah (v:=(iV ((i:Int)))) h38_11) ?_
  refine Aa rfl (Br (p:=(i:Int)) (q:=1) rfl rfl (z:=(((i + 1):Nat):Int)) (Bo (by first | rfl | omega | (push_cast; rfl)) (by omega) (by omega))) ?_
  refine l_A (iV ((((i + 1):Nat):Int))) rfl rfl ?_
  apply Ac
  refine ⟨_,?_,((i + 1)),ov27_9c3,og27_9c3,rfl,rfl,l27,rfl,h38_3,h38_4,h38_9,h38_10,rfl,(by omega),(Ga (cheTo_same ((touch_any ok hs37).trans ((by rw [List.take_of_length_le (by omega)] at p38_1; exact p38_1.symm:_ = tb).trans b52))) OG27_9c3),trivial⟩
  omega
 have q31:=of_decide_eq_false b31
 refine Bx ?_
 apply k25
 refine w_q rfl rfl fun K56 k56=>?_
 refine Ca OG27_9c3 fun ρ57 l57 r57=>?_
 replace ro:=Asa l57 ro
 replace hg:=Glob.mono l57 hg
 replace r2:=Arv l57 r2
 replace rh19:=Asa l57 rh19
 replace rmk19:=Asa l57 rmk19
 replace rf19:=Asa l57 rf19
 refine Ae rfl (Xt (i:=0) (cs:=[vh19,vmk19,vf19,ov27_9c3]) (rs:=[]) ⟨_,Tryd.underlying26,rfl⟩ ⟨_,Ab Tryd.typeInfo26,rfl⟩ h27_9 rfl rfl rfl ?_)
 have r58:Val ρ57 (.agg #[vh19,vmk19,vf19,ov27_9c3]) (⟨m.houses,m.marks,m.fields,cheTo m xs set more i⟩:Market):=Market.shut (x:=(⟨m.houses,m.marks,m.fields,cheTo m xs set more i⟩:Market)) rh19 rmk19 rf19 r57
 obtain ⟨hW1,hW2,hW3⟩:=che_law (more:=more) hm0 hH hset
 refine Ae rfl (Cm (vs:=[(.agg #[vh19,vmk19,vf19,ov27_9c3])]) (c_CheatsX (cheTo_end (by omega)) r58 (noRecv_obj hnr)) Tryd.func31 rfl rfl ⟨rfl,trivial⟩ fun w59 ρ59 σ59 hc59=>?_)
 obtain ⟨l59,s59,v59_0,w59e,r59_0⟩:=hc59
 replace s59:=s59.symm; subst s59 w59e
 replace ro:=Asa l59 ro
 replace hg:=Glob.mono l59 hg
 replace r2:=Arv l59 r2
 replace rh19:=Asa l59 rh19
 replace rmk19:=Asa l59 rmk19
 replace rf19:=Asa l59 rf19
 replace r57:=Asa l59 r57
 replace r58:=Asa l59 r58
 refine l_M (.tuple #[(iV (Akj (cheM m xs set more))),v59_0,(iV (Ch (cheM m xs set more)))]) rfl rfl ?_
 refine Aa rfl (Bk (vs:=#[(iV (Akj (cheM m xs set more))),v59_0,(iV (Ch (cheM m xs set more)))]) rfl (v:=(iV (Akj (cheM m xs set more)))) rfl) ?_
 refine Aa rfl (Bk (vs:=#[(iV (Akj (cheM m xs set more))),v59_0,(iV (Ch (cheM m xs set more)))]) rfl (v:=v59_0) rfl) ?_
 refine Aa rfl (Bk (vs:=#[(iV (Akj (cheM m xs set more))),v59_0,(iV (Ch (cheM m xs set more)))]) rfl (v:=(iV (Ch (cheM m xs set more)))) rfl) ?_
 refine l_A (iV (Akj (cheM m xs set more))) rfl rfl ?_
 refine l_A v59_0 rfl rfl ?_
 refine l_A (iV (Ch (cheM m xs set more))) rfl rfl ?_
 apply Ac
 apply k56
 refine Ai fun K60 k60=>?_
 refine w_q rfl rfl fun K61 k61=>?_
 refine l_M (iV (Ch (cheM m xs set more))) rfl rfl ?_
 refine Aa rfl (Dg (p:=Ch (cheM m xs set more)) (q:=0) rfl rfl) ?_
 refine l_M (.bool (Ch (cheM m xs set more) != 0)) rfl rfl ?_
 refine l_M v59_0 (Ar rfl rfl rfl (by rw [che_market hm0 hH]; rfl)) rfl ?_
 have g62:=Val.len r59_0
 refine Aa (Ar rfl rfl rfl (by rw [che_market hm0 hH]; rfl)) (Ce (el:=53) Tryd.underlying46 rfl r59_0) ?_
 refine Ak (Ar rfl rfl rfl (by rw [che_market hm0 hH]; rfl)) (Ay Market.f_houses Tryd.underlying26 rfl rfl Hu (by decide) h27_4 r2) fun v63 r63=>?_
 refine Ak (Ar rfl rfl rfl (by rw [che_market hm0 hH]; rfl)) (Ax Hu rfl r63) fun v64 r64=>?_
 have g65:=Val.len r64
 refine Aa (Ar rfl rfl rfl (by rw [che_market hm0 hH]; rfl)) (Ce (el:=9) Tryd.underlying22 rfl r64) ?_
 refine Aa (Ar rfl rfl rfl (by rw [che_market hm0 hH]; rfl)) (Dg (p:=(((Alc (cheM m xs set more)).length:Nat):Int)) (q:=((m.houses.length:Nat):Int)) rfl rfl) ?_
 refine Aa rfl (Bm rfl (by rw [che_market hm0 hH]; rfl) (v:=(.bool ((((Alc (cheM m xs set more)).length:Nat):Int) != ((m.houses.length:Nat):Int)))) rfl) ?_
 apply Ac
 apply k61
 refine Cg rfl (by rw [hW1]; simp) ?_
 refine Al ?_
 apply k60
 refine w_q rfl rfl fun K66 k66=>?_
 refine l_A (iV (0)) rfl rfl ?_
 apply Ac
 apply k66
 refine Ai fun K67 k67=>?_
 refine w_q rfl rfl fun K68 k68=>?_
 refine l_A (iV (0)) rfl rfl ?_
 apply Ac
 apply k68
 refine Ao ?_
 refine Cc (fun mm ee dd ρ' σ'=>∃ (h:Nat) (sz:Nat),(m.houses.length - h) = mm∧[] = dd∧ρ59 = ρ'∧((k20,Res.obj (Obj.cells #[vh19,vmk19,vf19,ov27_9c3] 26 (0,0))) :: σ) = σ'∧ee 10 = (iV ((set:Int)))∧ee 14 = (iV (Akj (cheM m xs set more)))∧ee 15 = v59_0∧ee 17 = (iV ((sz:Int)))∧ee 18 = (iV ((h:Int)))∧(h ≤ m.houses.length)∧(sz = ((List.range h).map fun k=>(set >>> k) % 2).sum)∧(sz ≤ h)∧True) (m:=_) ⟨0,0,rfl,rfl,rfl,rfl,h27_10,rfl,rfl,rfl,rfl,(Nat.zero_le _),rfl,(Nat.zero_le _),trivial⟩ ?_
 rintro m69 e69 _ _ _ ⟨h,sz,rfl,rfl,rfl,rfl,h69_10,h69_14,h69_15,h69_17,h69_18,p69_0,p69_1,p69_2,_⟩
 have hao:=Nat.and_one_is_mod (set >>> h)
 refine Ai fun K70 k70=>?_
 refine w_q rfl rfl fun K71 k71=>?_
 refine Aa rfl (Ah (v:=(iV ((h:Int)))) h69_18) ?_
 refine Aa rfl (Ah (v:=v59_0) h69_15) ?_
 have g72:=Val.len r59_0
 refine Aa rfl (Ce (el:=53) Tryd.underlying46 rfl r59_0) ?_
 refine Aa rfl (Da (p:=(h:Int)) (q:=(((Alc (cheM m xs set more)).length:Nat):Int)) rfl rfl) ?_
 apply Ac
 apply k71
 refine As (t:=decide ((h:Int) < (((Alc (cheM m xs set more)).length:Nat):Int))) rfl (fun b73=>?_) (fun b73=>?_)
 ·have q73:=of_decide_eq_true b73
  refine Al ?_
  apply k70
  refine Ai fun K74 k74=>?_
  refine Ao ?_
  refine Ag rfl rfl ?_
  refine Aa rfl (Ah (v:=(iV ((sz:Int)))) h69_17) ?_
  refine Aa rfl (Ah (v:=(iV ((set:Int)))) h69_10) ?_
  refine Aa rfl (Ah (v:=(iV ((h:Int)))) h69_18) ?_
  refine Aa rfl (Jq (p:=set) (q:=h) rfl rfl rfl (by omega)) ?_
  refine Aa rfl (Qi (p:=(set >>> h)) (q:=1) rfl rfl (Nat.lt_of_le_of_lt (Nat.shiftRight_le _ _) (by omega))) ?_
  refine Aa rfl (Br (p:=(sz:Int)) (q:=((((set >>> h) &&& 1):Nat):Int)) rfl rfl (z:=(((sz + ((set >>> h) &&& 1)):Nat):Int)) (Bo (by first | rfl | omega | (push_cast; rfl)) (by omega) (by omega))) ?_
  refine l_A (iV ((((sz + ((set >>> h) &&& 1)):Nat):Int))) rfl rfl ?_
  apply Ac
  apply k74
  refine Ag rfl rfl ?_
  refine Aa rfl (Ah (v:=(iV ((h:Int)))) h69_18) ?_
  refine Aa rfl (Br (p:=(h:Int)) (q:=1) rfl rfl (z:=(((h + 1):Nat):Int)) (Bo (by first | rfl | omega | (push_cast; rfl)) (by omega) (by omega))) ?_
  refine l_A (iV ((((h + 1):Nat):Int))) rfl rfl ?_
  apply Ac
  refine ⟨_,?_,((h + 1)),((sz + ((set >>> h) &&& 1))),rfl,rfl,rfl,rfl,h69_10,h69_14,h69_15,rfl,rfl,(by omega),(by rw [List.range_succ,List.map_append,List.sum_append,← p69_1,Nat.and_one_is_mod]; simp),(by omega),trivial⟩
  omega
 have q73:=of_decide_eq_false b73
 refine Bx ?_
 apply k67
 refine Ai fun K75 k75=>?_
 refine w_q rfl rfl fun K76 k76=>?_
 refine Aa rfl (Ah (v:=(iV (Akj (cheM m xs set more)))) h69_14) ?_
 refine Aa rfl (Ah (v:=(iV ((sz:Int)))) h69_17) ?_
 refine Aa rfl (Gk (p:=Akj (cheM m xs set more)) (q:=(sz:Int)) rfl rfl) ?_
 apply Ac
 apply k76
 refine As (t:=decide (Akj (cheM m xs set more) > (sz:Int))) rfl (fun b77=>?_) (fun b77=>?_)
 ·have q77:=of_decide_eq_true b77
  refine w_q rfl rfl fun K78 k78=>?_
  refine l_A (.bool (false)) rfl rfl ?_
  apply Ac
  apply k78
  refine Aj Ghost.drop ?_
  refine Aj (Arw (Arz (Arz (Arz (Arz l2 l19) l27) l57) l59)) ?_
  refine Aq ?_
  refine hret _ _ _ ?_
  refine ⟨rfl,rfl,Eq.trans (b:=(.bool (false))) rfl ?_⟩
  exfalso
  have hpop:sz = De set:=by rw [che_count hset hh5,show m.houses.length = h by omega]; exact p69_1
  omega
 have q77:=of_decide_eq_false b77
 refine Al ?_
 apply k75
 refine Ai fun K79 k79=>?_
 refine w_q rfl rfl fun K80 k80=>?_
 refine Aa rfl (Ah (v:=(iV (Akj (cheM m xs set more)))) h69_14) ?_
 refine Aa rfl (Ah (v:=(iV ((sz:Int)))) h69_17) ?_
 refine Aa rfl (Da (p:=Akj (cheM m xs set more)) (q:=(sz:Int)) rfl rfl) ?_
 apply Ac
 apply k80
 refine As (t:=decide (Akj (cheM m xs set more) < (sz:Int))) rfl (fun b81=>?_) (fun b81=>?_)
 ·have q81:=of_decide_eq_true b81
  refine w_q rfl rfl fun K82 k82=>?_
  refine Ae rfl (Bn (vs:=[]) (v:=(.bool (true))) (c_tells hg (noRecv_obj hnr)) Tryd.func17 rfl rfl trivial ?_)
  refine l_A (.bool (true)) rfl rfl ?_
  apply Ac
  apply k82
  refine Aj Ghost.drop ?_
  refine Aj (Arw (Arz (Arz (Arz (Arz l2 l19) l27) l57) l59)) ?_
  refine Aq ?_
  refine hret _ _ _ ?_
  refine ⟨rfl,rfl,Eq.trans (b:=(.bool (true))) rfl ?_⟩
  rfl
 have q81:=of_decide_eq_false b81
 refine Al ?_
 apply k79
 refine Ai fun K83 k83=>?_
 refine w_q rfl rfl fun K84 k84=>?_
 refine l_A (iV (0)) rfl rfl ?_
 apply Ac
 apply k84
 refine Ao ?_
 have hpop:sz = De set:=by rw [che_count hset hh5,show m.houses.length = h by omega]; exact p69_1
 refine Cc (fun mm ee dd ρ' σ'=>∃ (q:Nat),((Alc (cheM m xs set more)).length - q) = mm∧[] = dd∧ρ59 = ρ'∧((k20,Res.obj (Obj.cells #[vh19,vmk19,vf19,ov27_9c3] 26 (0,0))) :: σ) = σ'∧ee 10 = (iV ((set:Int)))∧ee 15 = v59_0∧ee 19 = (iV ((q:Int)))∧(q ≤ (Alc (cheM m xs set more)).length)∧True) (m:=_) ⟨0,rfl,rfl,rfl,rfl,h69_10,h69_15,rfl,(Nat.zero_le _),trivial⟩ ?_
 rintro m85 e85 _ _ _ ⟨q,rfl,rfl,rfl,rfl,h85_10,h85_15,h85_19,p85_0,_⟩
 refine Ai fun K86 k86=>?_
 refine w_q rfl rfl fun K87 k87=>?_
 refine Aa rfl (Ah (v:=(iV ((q:Int)))) h85_19) ?_
 refine Aa rfl (Ah (v:=v59_0) h85_15) ?_
 have g88:=Val.len r59_0
 refine Aa rfl (Ce (el:=53) Tryd.underlying46 rfl r59_0) ?_
 refine Aa rfl (Da (p:=(q:Int)) (q:=(((Alc (cheM m xs set more)).length:Nat):Int)) rfl rfl) ?_
 apply Ac
 apply k87
 refine As (t:=decide ((q:Int) < (((Alc (cheM m xs set more)).length:Nat):Int))) rfl (fun b89=>?_) (fun b89=>?_)
 ·have q89:=of_decide_eq_true b89
  refine Al ?_
  apply k86
  refine Ai fun K90 k90=>?_
  refine Ao ?_
  refine w_q rfl rfl fun K91 k91=>?_
  refine Aa rfl (Ah (v:=(iV ((set:Int)))) h85_10) ?_
  refine Aa rfl (Ah (v:=(iV ((q:Int)))) h85_19) ?_
  refine Aa rfl (Jq (p:=set) (q:=q) rfl rfl rfl (by omega)) ?_
  refine Aa rfl (Qi (p:=(set >>> q)) (q:=1) rfl rfl (Nat.lt_of_le_of_lt (Nat.shiftRight_le _ _) (by omega))) ?_
  refine Aa rfl (Ek (p:=((((set >>> q) &&& 1):Nat):Int)) (q:=1) rfl rfl) ?_
  refine l_A (.bool (((((set >>> q) &&& 1):Nat):Int) == 1)) rfl rfl ?_
  apply Ac
  apply k91
  refine w_q rfl rfl fun K92 k92=>?_
  refine Aa rfl (Ah (v:=v59_0) h85_15) ?_
  refine Aa rfl (Ah (v:=(iV ((q:Int)))) h85_19) ?_
  obtain ⟨a94,ha94⟩:=Ed (xs:=Alc (cheM m xs set more)) (i:=q) (by first | omega | (rw [cheTo_len]; omega))
  refine Ak rfl (Ci q Tryd.underlying46 Ov rfl r59_0 (q:=(q:Int)) rfl rfl ha94) fun v93 r93=>?_
  have ⟨g95a,g95b⟩:=At.rng r93
  refine Aa rfl (Bc Ov rfl r93) ?_
  refine Aa rfl (Ek (p:=a94) (q:=1) rfl rfl) ?_
  refine l_M (.bool (a94 == 1)) rfl rfl ?_
  refine Cn (a94 == 1) (fun b96=>?_) (fun b96=>?_)
  ·have q96:=Jo b96
   refine l_M (.bool (((((set >>> q) &&& 1):Nat):Int) == 1)) (Ar rfl rfl rfl b96) rfl ?_
   refine Aa (Ar rfl rfl rfl b96) (Ix (k:=((((set >>> q) &&& 1):Nat):Int) == 1) rfl) ?_
   refine Aa rfl (Bt rfl b96 (v:=(.bool (!(((((set >>> q) &&& 1):Nat):Int) == 1)))) rfl) ?_
   refine l_M (.bool (!(((((set >>> q) &&& 1):Nat):Int) == 1))) rfl rfl ?_
   refine Cn (!(((((set >>> q) &&& 1):Nat):Int) == 1)) (fun b97=>?_) (fun b97=>?_)
   ·have b98:=not_eq_t b97
    have q98:=La b98
    refine Ap (Bl rfl rfl rfl b97) ?_
    refine Ap (Bl rfl rfl rfl b97) ?_
    refine Ap (Bl rfl rfl rfl b97) ?_
    refine Ap (Bl rfl rfl rfl b97) ?_
    refine Ap (Bl rfl rfl rfl b97) ?_
    refine Ap (Bl rfl rfl rfl b97) ?_
    refine Ap (Jf rfl rfl rfl) ?_
    refine Ap (Bl rfl rfl rfl b97) ?_
    refine Aa rfl (Bt rfl b97 (v:=(.bool (true))) rfl) ?_
    apply Ac
    apply k92
    refine Co rfl rfl ?_
    refine w_q rfl rfl fun K99 k99=>?_
    refine l_A (.bool (false)) rfl rfl ?_
    apply Ac
    apply k99
    refine Aj Ghost.drop ?_
    refine Aj (Arw (Arz (Arz (Arz (Arz l2 l19) l27) l57) l59)) ?_
    refine Aq ?_
    refine hret _ _ _ ?_
    refine ⟨rfl,rfl,Eq.trans (b:=(.bool (false))) rfl ?_⟩
    exfalso; have h4:=hW3 (by omega) _ _ ha94
    first | (have h5:=h4.1 (by omega); rw [← bitA] at h5; have h6:=eq_of_beq h5; omega) | (have h5:=h4.2 (by omega); rw [← bitA] at h5; have h6:=La h5; omega)
   have b100:=not_eq_f b97
   have q100:=Jo b100
   refine Aa (Ar rfl rfl rfl b97) (Ah (v:=v59_0) h85_15) ?_
   refine Aa (Ar rfl rfl rfl b97) (Ah (v:=(iV ((q:Int)))) h85_19) ?_
   refine Ak (Ar rfl rfl rfl b97) (Ci q Tryd.underlying46 Ov rfl r59_0 (q:=(q:Int)) rfl rfl ha94) fun v101 r101=>?_
   have ⟨g102a,g102b⟩:=At.rng r101
   refine Aa (Ar rfl rfl rfl b97) (Bc Ov rfl r101) ?_
   refine Aa (Ar rfl rfl rfl b97) (Ek (p:=a94) (q:=2) rfl rfl) ?_
   refine l_M (.bool (a94 == 2)) (Ar rfl rfl rfl b97) rfl ?_
   refine Cn (a94 == 2) (fun b103=>?_) (fun b103=>?_)
   ·have q103:=Jo b103
    refine l_M (.bool (((((set >>> q) &&& 1):Nat):Int) == 1)) (Ar rfl rfl rfl b103) rfl ?_
    refine Aa (Ar rfl rfl rfl b97) (Bt rfl b103 (v:=(.bool (((((set >>> q) &&& 1):Nat):Int) == 1))) rfl) ?_
    refine Aa rfl (Bm rfl b97 (v:=(.bool (((((set >>> q) &&& 1):Nat):Int) == 1))) rfl) ?_
    apply Ac
    apply k92
    refine Co rfl b100 ?_
    refine w_q rfl rfl fun K104 k104=>?_
    refine l_A (.bool (false)) rfl rfl ?_
    apply Ac
    apply k104
    refine Aj Ghost.drop ?_
    refine Aj (Arw (Arz (Arz (Arz (Arz l2 l19) l27) l57) l59)) ?_
    refine Aq ?_
    refine hret _ _ _ ?_
    refine ⟨rfl,rfl,Eq.trans (b:=(.bool (false))) rfl ?_⟩
    exfalso; have h4:=hW3 (by omega) _ _ ha94
    first | (have h5:=h4.1 (by omega); rw [← bitA] at h5; have h6:=eq_of_beq h5; omega) | (have h5:=h4.2 (by omega); rw [← bitA] at h5; have h6:=La h5; omega)
   have q103:=La b103
   refine Ap (Bl rfl rfl rfl b103) ?_
   refine Aa (Ar rfl rfl rfl b97) (Bm rfl b103 (v:=(.bool (false))) rfl) ?_
   refine Aa rfl (Bm rfl b97 (v:=(.bool (false))) rfl) ?_
   apply Ac
   apply k92
   refine Cg rfl rfl ?_
   refine Al ?_
   apply k90
   refine Ag rfl rfl ?_
   refine Aa rfl (Ah (v:=(iV ((q:Int)))) h85_19) ?_
   refine Aa rfl (Br (p:=(q:Int)) (q:=1) rfl rfl (z:=(((q + 1):Nat):Int)) (Bo (by first | rfl | omega | (push_cast; rfl)) (by omega) (by omega))) ?_
   refine l_A (iV ((((q + 1):Nat):Int))) rfl rfl ?_
   apply Ac
   refine ⟨_,?_,((q + 1)),rfl,rfl,rfl,rfl,h85_10,h85_15,rfl,(by omega),trivial⟩
   omega
  have q96:=La b96
  refine Ap (Bl rfl rfl rfl b96) ?_
  refine Ap (Bl rfl rfl rfl b96) ?_
  refine Aa rfl (Bm rfl b96 (v:=(.bool (false))) rfl) ?_
  refine l_M (.bool (false)) rfl rfl ?_
  refine Aa (Ar rfl rfl rfl rfl) (Ah (v:=v59_0) h85_15) ?_
  refine Aa (Ar rfl rfl rfl rfl) (Ah (v:=(iV ((q:Int)))) h85_19) ?_
  refine Ak (Ar rfl rfl rfl rfl) (Ci q Tryd.underlying46 Ov rfl r59_0 (q:=(q:Int)) rfl rfl ha94) fun v105 r105=>?_
  have ⟨g106a,g106b⟩:=At.rng r105
  refine Aa (Ar rfl rfl rfl rfl) (Bc Ov rfl r105) ?_
  refine Aa (Ar rfl rfl rfl rfl) (Ek (p:=a94) (q:=2) rfl rfl) ?_
  refine l_M (.bool (a94 == 2)) (Ar rfl rfl rfl rfl) rfl ?_
  refine Cn (a94 == 2) (fun b107=>?_) (fun b107=>?_)
  ·have q107:=Jo b107
   refine l_M (.bool (((((set >>> q) &&& 1):Nat):Int) == 1)) (Ar rfl rfl rfl b107) rfl ?_
   refine Aa (Ar rfl rfl rfl rfl) (Bt rfl b107 (v:=(.bool (((((set >>> q) &&& 1):Nat):Int) == 1))) rfl) ?_
   refine Aa rfl (Bm rfl rfl (v:=(.bool (((((set >>> q) &&& 1):Nat):Int) == 1))) rfl) ?_
   apply Ac
   apply k92
   refine As (t:=((((set >>> q) &&& 1):Nat):Int) == 1) rfl (fun b108=>?_) (fun b108=>?_)
   ·have q108:=Jo b108
    refine w_q rfl rfl fun K109 k109=>?_
    refine l_A (.bool (false)) rfl rfl ?_
    apply Ac
    apply k109
    refine Aj Ghost.drop ?_
    refine Aj (Arw (Arz (Arz (Arz (Arz l2 l19) l27) l57) l59)) ?_
    refine Aq ?_
    refine hret _ _ _ ?_
    refine ⟨rfl,rfl,Eq.trans (b:=(.bool (false))) rfl ?_⟩
    exfalso; have h4:=hW3 (by omega) _ _ ha94
    first | (have h5:=h4.1 (by omega); rw [← bitA] at h5; have h6:=eq_of_beq h5; omega) | (have h5:=h4.2 (by omega); rw [← bitA] at h5; have h6:=La h5; omega)
   have q108:=La b108
   refine Al ?_
   apply k90
   refine Ag rfl rfl ?_
   refine Aa rfl (Ah (v:=(iV ((q:Int)))) h85_19) ?_
   refine Aa rfl (Br (p:=(q:Int)) (q:=1) rfl rfl (z:=(((q + 1):Nat):Int)) (Bo (by first | rfl | omega | (push_cast; rfl)) (by omega) (by omega))) ?_
   refine l_A (iV ((((q + 1):Nat):Int))) rfl rfl ?_
   apply Ac
   refine ⟨_,?_,((q + 1)),rfl,rfl,rfl,rfl,h85_10,h85_15,rfl,(by omega),trivial⟩
   omega
  have q107:=La b107
  refine Ap (Bl rfl rfl rfl b107) ?_
  refine Aa (Ar rfl rfl rfl rfl) (Bm rfl b107 (v:=(.bool (false))) rfl) ?_
  refine Aa rfl (Bm rfl rfl (v:=(.bool (false))) rfl) ?_
  apply Ac
  apply k92
  refine Cg rfl rfl ?_
  refine Al ?_
  apply k90
  refine Ag rfl rfl ?_
  refine Aa rfl (Ah (v:=(iV ((q:Int)))) h85_19) ?_
  refine Aa rfl (Br (p:=(q:Int)) (q:=1) rfl rfl (z:=(((q + 1):Nat):Int)) (Bo (by first | rfl | omega | (push_cast; rfl)) (by omega) (by omega))) ?_
  refine l_A (iV ((((q + 1):Nat):Int))) rfl rfl ?_
  apply Ac
  refine ⟨_,?_,((q + 1)),rfl,rfl,rfl,rfl,h85_10,h85_15,rfl,(by omega),trivial⟩
  omega
 have q89:=of_decide_eq_false b89
 refine Bx ?_
 apply k83
 refine w_q rfl rfl fun K110 k110=>?_
 refine Ae rfl (Bn (vs:=[]) (v:=(.bool (true))) (c_tells hg (noRecv_obj hnr)) Tryd.func17 rfl rfl trivial ?_)
 refine l_A (.bool (true)) rfl rfl ?_
 apply Ac
 apply k110
 refine Aj Ghost.drop ?_
 refine Aj (Arw (Arz (Arz (Arz (Arz l2 l19) l27) l57) l59)) ?_
 refine Aq ?_
 refine hret _ _ _ ?_
 refine ⟨rfl,rfl,Eq.trans (b:=(.bool (true))) rfl ?_⟩
 rfl
end Go.Proofs.YtoefdnbaklajeaaDoor

namespace Go.Proofs.YtoefdnbaklajeaaDoor
open Go Go.WideShapes Go.ChangeShapes Go.RowKit Go.Conc
set_option maxRecDepth 100000
theorem fakeCheats_lifted (os:Os) (started:os.Started) (H:Type) (enc:TypeId × Value→H):ReturnsInLeavingWide {} Tryd.checked os 5 .any (Aqs H enc Rows.fakeCheatsSpec Tryd.f5) (Rows.fakeCheatsSpec.post enc Tryd.prog Tryd.f5 false true false false):=by
  refine law_lift (r:=8) os started H enc Tryd.func5 rfl rfl (by kernel_rfl) (by decide) (fun ds hd=>?_)
    (ChangeSpec.witness_shaped (enc:=enc) (C:=Tryd.checked) (os:=os) (X:=fun w _=>laidMetH Tryd.prog laidL w) false (World.doorLaid Tryd.prog 2000 os) #[.agg #[.slice none 0 0,.slice none 0 0,.slice none 0 0,.slice none 0 0],.slice none 0 0,.int .u8 0,.slice none 0 0] 8 rfl (World.shaped_of_RefB (by kernel_rfl) (by kernel_rfl)) (by kernel_rfl) (by kernel_rfl) (by kernel_rfl) (door_met os _)) ?_
  · match ds,hd with
    | [d1,d2,d3,d4],_=>rfl
  · intro W args ds ps hv hA hw hg
    obtain ⟨hl1,hl2⟩:=Sa hA
    match args,hl1,ds,hl2,hA with
    | [v1,v2,v3,v4],_,[d1,d2,d3,d4],_,⟨p1,q1,h1,⟨p2,q2,h2,⟨p3,q3,h3,⟨p4,q4,h4,_,_⟩,_⟩,_⟩,_⟩ =>
      obtain ⟨b1,k1⟩:=hv 0 26 v1 rfl rfl
      obtain ⟨b2,k2⟩:=hv 1 55 v2 rfl rfl
      obtain ⟨b3,k3⟩:=hv 2 5 v3 rfl rfl
      obtain ⟨b4,k4⟩:=hv 3 55 v4 rfl rfl
      obtain ⟨x1,rx1⟩:=arg_struct dec26 rfl Tryd.underlying26 k1 h1 (weights_at hw (j:=0) rfl rfl)
      obtain ⟨x2,rx2⟩:=arg_slice (dec_list Tryd.underlying55 (by kernel_rfl) (Nat.le_of_ble_eq_true (by kernel_rfl)) (by decide) (dec_uh Tryd.underlying68 (by kernel_rfl))) Tryd.underlying55 k2 h2 (weights_at hw (j:=1) rfl rfl)
      obtain ⟨x3,rfl,lx3⟩:=arg_u8 Tryd.underlying5 k3 h3
      obtain ⟨x4,rx4⟩:=arg_slice (dec_list Tryd.underlying55 (by kernel_rfl) (Nat.le_of_ble_eq_true (by kernel_rfl)) (by decide) (dec_uh Tryd.underlying68 (by kernel_rfl))) Tryd.underlying55 k4 h4 (weights_at hw (j:=3) rfl rfl)
      exact c_FakeCheats hg (fun c vs h=>by cases h) rx1 rx2 lx3 rx4
theorem fakeCheats_row:Rows.FakeCheatsSaid :=
  OpenClaim.holds_of_wide_leaving 5 Tryd.f5 rfl rfl rfl rfl rfl rfl rfl ⟨rfl,rfl,rfl,rfl,rfl⟩ rfl rfl rfl rfl rfl (by kernel_rfl) Tryd.func5 (by kernel_rfl)
    (of_decide_eq_true (by kernel_rfl)) (by unfold Func.isWrapper; first | (rw [if_pos (by decide +kernel)]; kernel_rfl) | (rw [if_neg (by decide +kernel)]; exact ⟨rfl,rfl⟩))
    (fun os started H enc _=>fakeCheats_lifted os started H enc)
theorem fakeCheats_holds:Rows.FakeCheatsCardSaid :=
  tied_goes .later [.funcs,.data] true (true,"5ad7a6b1106c4d9dff1ffa762e242e88c7338921ee0cf2e26581c2f653fcb6c6") false fakeCheats_row (by kernel_rfl) fakeCheats_row_tie rfl ⟨rfl,rfl⟩ (by kernel_rfl) rfl
    (fun f fn hf hfn=>by
      obtain rfl:f = 5:=Option.some.inj ((show Tryd.prog.funcNamed "crocus/crocuslaw08.FakeCheats" = some 5 by kernel_rfl).symm.trans hf) |>.symm
      obtain rfl:fn = Tryd.f5:=(Option.some.inj (Tryd.func5.symm.trans hfn)).symm
      exact ⟨by kernel_rfl,fun j t ht=>by
        have h2:t = 26∨t = 55∨t = 5:=by
          match j,ht with
          | 0,h=>exact .inl (Option.some.inj h).symm
          | 1,h=>exact .inr (.inl (Option.some.inj h).symm)
          | 2,h=>exact .inr (.inr ((Option.some.inj h).symm))
          | 3,h=>exact .inr (.inl (Option.some.inj h).symm)
        rcases h2 with rfl | rfl | rfl
        · exact (show Tryd.prog.wantsStandIn 26 = false by kernel_rfl)
        · exact (show Tryd.prog.wantsStandIn 55 = false by kernel_rfl)
        · exact (show Tryd.prog.wantsStandIn 5 = false by kernel_rfl)⟩)
    (by kernel_rfl)
end Go.Proofs.YtoefdnbaklajeaaDoor
