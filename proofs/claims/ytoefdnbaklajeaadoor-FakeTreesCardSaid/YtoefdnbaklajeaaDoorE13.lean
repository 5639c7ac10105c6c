/- Every call of crocuslaw08.FakeTrees returns true, on every schedule, and leaves its arguments as they were: conditions: the two listed package-level variables hold what the program's text lays. -/
import Derived.Test.YtoefdnbaklajeaaDoorB5
import Derived.Carry
import Derived.ChangeArms
import Derived.ChangeSame
import Derived.ChangeVars
import Derived.Conc.Holds
import Derived.Conc.LeavingOf
import Derived.FnData
import Derived.LaidHandle
import Derived.LaidLaws
import Derived.LaidMore
import Derived.Laws.BitsAllLaws
import Derived.Laws.BitsLemmas
import Derived.OpenShut
import Derived.RowKit
import Derived.SizedLaws
import Derived.Stop.Joined
import Derived.Test.YtoefdnbaklajeaaDoorProg
import Derived.Test.YtoefdnbaklajeaaDoorRows
import Derived.WideShapes
set_option linter.unusedVariables false
set_option linter.unusedSimpArgs false
namespace Go.Proofs.YtoefdnbaklajeaaDoor
open Go
section
variable {C:Ctx} {b:FB} {n:Nat} {l₀ rest:List Oper} {Q:Env→List Deferred→Ro→Own→Prop} {e:Env} {ds:List Deferred} {ρ:Ro} {σ:Own}
end
section
variable {P:Program} {ρ:Ro} {e:Env} {ty t t':TypeId} {x y:Operand} {v:Value}
theorem eqGuard_bool {op:BinOp} {p q:Bool}:eqGuard op t x y (.bool p) (.bool q) = pure ():=by
  cases op <;> rfl
theorem eqGuard_str {op:BinOp} {p q:ByteArray}:eqGuard op t x y (.string p) (.string q) = pure ():=by
  cases op <;> rfl
section
variable {k:IntKind} {p q:Int}
end
end
section
variable {C:Ctx} {b:FB} {n:Nat} {l₀:List Oper} {Q:Env→List Deferred→Ro→Own→Prop} {e:Env} {ds:List Deferred} {ρ ρ₀:Ro} {σ:Own} {pz:List Nat} {fuel:Nat} {listed:Array Bool}
section
variable {d i:Nat} {op:Op} {ty:TypeId} {pos:String} {af:Array Edge} {g:Option (Nat × Bool)} {v:Value} {li:List Bool}
end
end
end Go.Proofs.YtoefdnbaklajeaaDoor

namespace Go.Proofs.YtoefdnbaklajeaaDoor
open Go
section
variable {α:Type} [Dat α] {ρ ρ':Ro}
end
section
variable {P:Program} {ρ:Ro} {σ:Own} {t:TypeId}
end
section
variable {C:Ctx} {b:FB} {n:Nat} {l₀ rest:List Oper} {Q:Env→List Deferred→Ro→Own→Prop} {e:Env} {ds:List Deferred} {ρ:Ro} {σ:Own}
variable {d:Nat} {ty:TypeId} {pos:String} {af:Array Edge} {g:Option (Nat × Bool)} {x y:Operand} {v p:Value} {t:TypeId}
/-- A slice's part. -/
theorem slice_hi {α:Type} [Dat α] {xs:List α} {a:Option Addr} {len cap h:Nat} (hv:Val ρ (.slice a len cap) xs) (hh:h ≤ len):Val ρ (.slice (if cap = 0 then a else a.map (·.add (0 * Dat.k α))) (h - 0) (cap - 0)) (xs.take h):=by
  obtain ⟨a',len',cap',h1,h2,h3,h4,h5⟩:=Cs.1 hv
  cases h1
  refine Cs.2 ⟨a,h,cap,?_,by simp; omega,by omega,by omega,fun i x hx=>?_⟩
  · congr 1
    split
    · rfl
    · cases a with
      | none=>rfl
      | some ad=>simp [Addr.add]
  · rw [List.getElem?_take] at hx
    split at hx
    · exact h5 i x hx
    · cases hx
theorem y_slice_hi {P:Program} {α:Type} [Dat α] {xs:List α} {el:TypeId} {k:IntKind} {q:Int} (h:Nat) (hT:P.underlying t = some (.slice el)) (hE:GoTy P el α) (hx:Af e x = v) (hv:Val ρ v xs) (hy:Af e y = .int k q) (hq:q = (h:Int)) (hh:h ≤ xs.length) :
    ∃ w,Val ρ w (xs.take h)∧Yld P ρ e (.slice t x none (some y) none) ty w:=by
  obtain ⟨a,len,cap,h1,h2,h3,h4,h5⟩:=Cs.1 hv
  subst h1
  refine ⟨_,slice_hi hv (by omega),Mf (s:=Instr.sliceAt t (Af e x) none (some (Af e y)) none) (fun _ _ _ _=>rfl) fun ρ' σ _=>?_⟩
  rw [hx,hy,hq]
  show wpS P ρ' ((underlying t).bind _) σ _
  rw [Ad]
  refine Az hT ?_
  show wpS P ρ' ((underlying t).bind _) σ _
  rw [Ad]
  refine Az hT ?_
  simp only []
  show wpS P ρ' ((Instr.sliceBounds true len cap none (some (.int k h)) none).bind _) σ _
  have hb:Instr.sliceBounds true len cap none (some (.int k (h:Int))) none = pure (0,h,cap):=by
    show (do let m ← pure cap; let hh ← Instr.sliceBound (.int k (h:Int)) m _; let l ← pure 0; pure (l,hh,m):Sem _) = _
    have:Instr.sliceBound (.int k (h:Int)) cap .sliceAcap = pure h:=by
      show (if 0 ≤ (h:Int)∧(h:Int) ≤ cap then pure (h:Int).toNat else _) = _
      rw [if_pos (by omega)]; simp
    show (Instr.sliceBound (.int k (h:Int)) cap .sliceAcap).bind _ = _
    rw [this]; rfl
  rw [hb]
  show wpS P ρ' ((sizeOf el).bind _) σ _
  rw [Ad]
  exact Dw hE.info ⟨rfl,rfl⟩
end
end Go.Proofs.YtoefdnbaklajeaaDoor

namespace Go.Proofs.YtoefdnbaklajeaaDoor
open Go
theorem FNode.f_not:Fld FNode (Int) 2 FNode.not:=⟨fun ρ cs x=>((.snd (.snd Fld.self)):Fld ((Int) × (Int) × (Int)) (Int) 2 _).at_ ρ cs (x.test,(x.found,x.not))⟩
theorem Place.f_at_:Fld Place (Int) 0 Place.at_:=⟨fun ρ cs x=>(Fld.fst:Fld ((Int) × (Int)) (Int) 0 _).at_ ρ cs (x.at_,x.sets)⟩
theorem ty169:GoTy Tryd.prog 169 Place:=⟨⟨_,Tryd.underlying169,rfl⟩,⟨_,Ab Tryd.typeInfo169,rfl⟩⟩
theorem ty49:GoTy Tryd.prog 49 (List FNode):=⟨⟨_,Tryd.underlying49,rfl⟩,⟨_,Ab Tryd.typeInfo49,rfl⟩⟩
def zc169:List Value:=[.int .i64 0,.int .i64 0]
theorem zr169:Gc Tryd.prog 169 (.agg #[.int .i64 0,.int .i64 0]):=⟨_,Ab Tryd.typeInfo169,rfl⟩
def zc167:List Value:=[.nilFunc]
theorem zr167:Gc Tryd.prog 167 (.nilFunc):=⟨_,Ab Tryd.typeInfo167,rfl⟩
end Go.Proofs.YtoefdnbaklajeaaDoor

namespace Go.Proofs.YtoefdnbaklajeaaDoor
open Go
section
variable {C:Ctx} {b:FB} {n:Nat} {l₀ rest:List Oper} {Q:Env→List Deferred→Ro→Own→Prop} {Q':Hv} {e:Env} {ds:List Deferred} {ρ:Ro} {σ:Own}
variable {d:Nat} {ty:TypeId} {pos:String} {af:Array Edge} {g:Option (Nat × Bool)} {x y:Operand} {v p:Value} {t t':TypeId}
section
variable {P:Program}
theorem y_rem {k:IntKind} {p q z:Int} (hx:Af e x = .int k p) (hy:Af e y = .int k q) (h0:q ≠ 0) (hz:p.tmod q = z):Yld P ρ e (.binOp .rem t x y t') ty (.int k z) :=
  Ju hx hy Dh (by subst hz; simp only [binOp]; rw [if_neg (by simp)]; unfold Op.intDiv; rw [if_neg h0])
theorem y_quo {k:IntKind} {p q z:Int} (hx:Af e x = .int k p) (hy:Af e y = .int k q) (h0:q ≠ 0) (hz:k.wrap (p.tdiv q) = z):Yld P ρ e (.binOp .quo t x y t') ty (.int k z) :=
  Ju hx hy Dh (by subst hz; simp only [binOp]; rw [if_neg (by simp)]; unfold Op.intDiv; rw [if_neg h0])
end
section
variable {P:Program}
theorem y_eqs {p q:ByteArray} (hx:Af e x = .string p) (hy:Af e y = .string q):Yld P ρ e (.binOp .eql t x y t') ty (.bool (p.toList == q.toList)):=Ju hx hy eqGuard_str (by simp only [binOp]; rfl)
end
end
end Go.Proofs.YtoefdnbaklajeaaDoor

namespace Go.Proofs.YtoefdnbaklajeaaDoor
open Go
theorem wpS_eqBool {P:Program} {ρ:Ro} {σ:Own} {t:TypeId} {p q:Bool} (hT:P.underlying t = some .bool) {Q:Bool→Own→Prop} (h:Q (p == q) σ):wpS P ρ (Op.equal t (.bool p) (.bool q)) σ Q:=by
  show wpS P ρ ((underlying t).bind _) σ Q
  rw [Ad]
  exact Az hT h
theorem y_neqb {P:Program} {ρ:Ro} {e:Env} {ty t t':TypeId} {x y:Operand} {p q:Bool} (hT:P.underlying t = some .bool) (hx:Af e x = .bool p) (hy:Af e y = .bool q):Yld P ρ e (.binOp .neq t x y t') ty (.bool (p != q)) :=
  Mf (s:=(do eqGuard .neq t x y (Af e x) (Af e y); binOp .neq t (Af e x) (Af e y))) (fun _ _ _ _=>rfl) fun ρ' σ _=>by
    rw [hx,hy,eqGuard_bool]
    show wpS P ρ' ((Op.equal t (.bool p) (.bool q)).bind _) σ _
    rw [Ad]
    exact wpS_eqBool hT ⟨rfl,rfl⟩
theorem y_eqlb {P:Program} {ρ:Ro} {e:Env} {ty t t':TypeId} {x y:Operand} {p q:Bool} (hT:P.underlying t = some .bool) (hx:Af e x = .bool p) (hy:Af e y = .bool q):Yld P ρ e (.binOp .eql t x y t') ty (.bool (p == q)) :=
  Mf (s:=(do eqGuard .eql t x y (Af e x) (Af e y); binOp .eql t (Af e x) (Af e y))) (fun _ _ _ _=>rfl) fun ρ' σ _=>by
    rw [hx,hy,eqGuard_bool]
    show wpS P ρ' ((Op.equal t (.bool p) (.bool q)).bind _) σ _
    rw [Ad]
    exact wpS_eqBool hT ⟨rfl,rfl⟩
section
variable {mn:Bool} {X:Frame→List Frame→Ro→Own→Cy→Prop} {b:FB} {n:Nat} {e:Env} {ds:List Deferred} {ρ:Ro} {σ:Own} {K:Value→List Deferred→Ro→Own→Prop} {rd:Option Nat} {dd:Option Tmp}
variable {ty:TypeId} {pos:String} {af:Array Edge} {g:Option (Nat × Bool)} {x y:Operand} {v p:Value} {t t':TypeId}
end
end Go.Proofs.YtoefdnbaklajeaaDoor

namespace Go.Proofs.YtoefdnbaklajeaaDoor
open Go
section
variable {C:Ctx} {e:Env} {ds:List Deferred} {ρ:Ro} {σ:Own} {K:Value→List Deferred→Ro→Own→Prop} {rd:Option Nat} {dd:Option Tmp}
variable {ty:TypeId} {pos:String} {af:Array Edge} {g:Option (Nat × Bool)} {x y u:Operand} {v p:Value} {t t':TypeId} {P:Program}
theorem w_storeG {α:Type} [Dat α] {xs:List α} {a:α} {gr:Own} {el:TypeId} {w:Value} {off i:Nat} (hE:∃ i,C.P.info? t = some i∧i.size = Dat.k α) (hx:Af e x = .pointer (some ⟨Aiv v,off,none⟩)) (ho:off = i * Dat.k α) (hy:Af e y = w) (hw:Val ρ w a) (hv:Grow ρ el v xs gr) (hi:i < xs.length)
    (h:∀ gr',Grow ρ el v (xs.set i a) gr'→K undef ds ρ (gr' ++ σ)):wpS C.P ρ (execOp (Af e) ⟨dd,.store t x y,ty,pos,af,g⟩) (gr ++ σ) (NextH C K rd ds ρ):=by
  obtain ⟨wc,h1,h2,h3⟩:=hw.cells
  rcases hv.2.2 with ⟨_,h2⟩ | ⟨r,cap,cs,rs,gb,e1,e2,hr,hl,hc⟩
  · rw [h2] at hi; simp at hi
  · subst e1 e2
    have hwl:=Dat.len h1
    have hcl:=hr.len
    have hb:i * Dat.k α + Dat.k α ≤ xs.length * Dat.k α:=by rw [← Nat.succ_mul]; exact Nat.mul_le_mul_right _ hi
    -- the row,cut at the element
    obtain ⟨ca,cb,cc,f1,f2,f3,f4⟩:∃ ca cb cc,cs = ca ++ (cb ++ cc)∧ca.length = i * Dat.k α∧cb.length = Dat.k α∧Rows ρ (ca ++ (wc ++ cc)) (xs.set i a):=by
      clear hv h hx hl hc hb hcl ho
      induction xs generalizing cs i with
      | nil=>simp at hi
      | cons z zs ih =>
        obtain ⟨c1,c2,g1,g2,g3⟩:=hr
        have hz:=Dat.len g2
        cases i with
        | zero=>exact ⟨[],c1,c2,by simp [g1],by simp,hz,wc,c2,rfl,h1,g3⟩
        | succ i =>
          obtain ⟨ca,cb,cc,f1,f2,f3,f4⟩:=ih (i:=i) (by simpa using hi) _ g3
          refine ⟨c1 ++ ca,cb,cc,by rw [g1,f1]; simp,by rw [List.length_append,hz,f2,Nat.add_mul,Nat.one_mul,Nat.add_comm],f3,c1,ca ++ (wc ++ cc),by simp,g2,f4⟩
    refine Ld (i:=0) (off:=off) (vs:=wc) (c:=cs ++ rs) (c':=(ca ++ (wc ++ cc)) ++ rs) hE hx hy h3 hwl (Dat.sgl h1) rfl (by rw [List.length_append,hcl,hwl,ho]; omega) ?_ ?_
    · rw [Py _ _ _ (by rw [List.length_append,hcl,hwl,ho]; omega),f1,ho,← f2,hwl,← f3]
      rw [List.append_assoc,List.take_left,← List.append_assoc ca,← List.drop_drop]
      simp [List.append_assoc]
    · refine h ((r,.obj (.cells ((ca ++ (wc ++ cc)) ++ rs).toArray el (0,0))) :: gb) ⟨fun p hp=>?_,by rw [List.length_set]; exact hv.2.1,.inr ⟨r,cap,ca ++ (wc ++ cc),rs,gb,by rw [List.length_set],rfl,f4,?_,by rw [List.length_set]; exact hc⟩⟩
      · rcases List.mem_cons.1 hp with rfl | hp
        · exact ⟨_,rfl⟩
        · exact hv.1 p (List.mem_cons_of_mem _ hp)
      · rw [← hl,f1]; simp [hwl,f3]
end
section
variable {C:Ctx} {b:FB} {l₀:List Oper} {Q:Env→List Deferred→Ro→Own→Prop} {ds:List Deferred} {ρ₀ ρ₁:Ro} {pz:List Nat}
end
end Go.Proofs.YtoefdnbaklajeaaDoor

namespace Go.Proofs.YtoefdnbaklajeaaDoor
open Go
section
variable {C:Ctx} {e:Env} {ds:List Deferred} {ρ:Ro} {σ:Own} {K:Value→List Deferred→Ro→Own→Prop} {rd:Option Nat} {dd:Option Tmp}
variable {ty:TypeId} {pos:String} {af:Array Edge} {g:Option (Nat × Bool)} {x y u:Operand} {v p:Value} {t t':TypeId} {P:Program}
end
section
variable {C:Ctx} {e:Env} {ds:List Deferred} {ρ:Ro} {σ:Own} {K:Value→List Deferred→Ro→Own→Prop} {rd:Option Nat} {dd:Option Tmp}
variable {ty:TypeId} {pos:String} {af:Array Edge} {g:Option (Nat × Bool)} {x y u:Operand} {v p:Value} {t t':TypeId} {P:Program}
end
theorem key169:Key2 Tryd.prog 169:=⟨⟨_,_,Tryd.underlying169,⟨by decide,rfl,Tryd.underlying3⟩,⟨by decide,rfl,Tryd.underlying110⟩⟩,by kernel_rfl⟩
end Go.Proofs.YtoefdnbaklajeaaDoor

namespace Go.Proofs.YtoefdnbaklajeaaDoor
open Go Go.WideShapes
theorem reach_lt {n:Nat} (h:n ≤ reachBytes):n < 2 ^ 60:=by unfold reachBytes at h; omega
theorem dec_int {t:TypeId} (ht:Tryd.prog.underlying t = some (.int .i64)) (hc:Tryd.prog.cellsOf t = 1):Apq Int t :=
  ⟨hc,fun H enc W fuel cs x h _=>by
    obtain ⟨n,h1,_,h3⟩:=DataW.trod_int ht h
    refine ⟨n,h1,?_⟩
    simp [Lit.wf,IntKind.min,IntKind.max,IntKind.signed,IntKind.bits] at h3
    exact ⟨by omega,by omega⟩⟩
theorem dec_bool {t:TypeId} (ht:Tryd.prog.underlying t = some .bool) (hc:Tryd.prog.cellsOf t = 1):Apq Bool t :=
  ⟨hc,fun H enc W fuel cs x h _=>by
    obtain ⟨b,h1,_⟩:=DataW.trod_bool ht h
    exact ⟨b,h1⟩⟩
theorem dec_str {t:TypeId} (ht:Tryd.prog.underlying t = some .string) (hc:Tryd.prog.cellsOf t = 1):Apq ByteArray t :=
  ⟨hc,fun H enc W fuel cs x h hw=>by
    obtain ⟨s,h1,h2,_⟩:=DataW.trod_string ht h
    refine ⟨s,h1,reach_lt ?_⟩
    have:=hw s.data.toList.length (by rw [h2]; simp [DataW.weights])
    simpa using this⟩
theorem list_of {α:Type} {P:Nat→α→Prop}:∀ n,(∀ i,i < n→∃ a,P i a)→∃ xs:List α,xs.length = n∧∀ i x,xs[i]? = some x→P i x
  | 0,_=>⟨[],rfl,fun i x h=>by cases h⟩
  | n + 1,h=>by
    obtain ⟨xs,h1,h2⟩:=list_of n fun i hi=>h i (by omega)
    obtain ⟨a,ha⟩:=h n (by omega)
    refine ⟨xs ++ [a],by simp [h1],fun i x hx=>?_⟩
    rcases Nat.lt_or_ge i n with hlt | hge
    · rw [List.getElem?_append_left (by omega)] at hx; exact h2 i x hx
    · have hi:i = n:=by
        have:=(List.getElem?_eq_some_iff.1 hx).1
        simp only [List.length_append,List.length_singleton] at this; omega
      subst hi
      rw [List.getElem?_append_right (by omega),h1,Nat.sub_self] at hx
      cases hx; exact ha
theorem add_0 {a:Addr}:a.add 0 = a:=by simp [Addr.add]
theorem add_none {b off i:Nat}:(⟨b,off,none⟩:Addr).add i = ⟨b,off + i,none⟩:=by
  unfold Addr.add; split
  · rename_i h; subst h; rfl
  · rfl
theorem row_cells {W:World} {a:Addr} {k:Nat} {cs:List Value} (hk:1 ≤ k) (h:W.cells? 0 a k = some cs):∃ b off c t fz rest,a = ⟨b,off,none⟩∧W.heap[b]? = some (.cells c t fz)∧c.toList.drop off = cs ++ rest∧cs.length = k:=by
  unfold World.cells? at h
  rw [if_pos (Nat.zero_le _)] at h
  have hl:=mapM_some_length h
  rw [List.length_range] at hl
  have hg:∀ j,j < k→W.cell? (a.add j) = cs[j]?:=fun j hj=>mapM_some_get h j j (by rw [List.getElem?_range hj])
  obtain ⟨b,off,spot⟩:=a
  have h0:=hg 0 hk
  rw [add_0] at h0
  obtain ⟨v,hv⟩:∃ v,cs[0]? = some v:=⟨_,List.getElem?_eq_getElem (by omega)⟩
  rw [hv] at h0
  unfold World.cell? at h0
  simp only at h0
  cases hb:W.heap[b]? with
  | none=>rw [hb] at h0; cases h0
  | some o =>
    cases o with
    | cells c t fz =>
      rw [hb] at h0
      simp only at h0
      cases spot with
      | some s=>simp at h0
      | none =>
        refine ⟨b,off,c,t,fz,(c.toList.drop off).drop k,rfl,hb,?_,hl⟩
        have e1:(c.toList.drop off).take k = cs:=by
          apply List.ext_getElem?
          intro j
          rw [List.getElem?_take]
          by_cases hj:j < k
          · rw [if_pos hj,← hg j hj,List.getElem?_drop,add_none]
            unfold World.cell?
            simp only [hb]
            simp
          · rw [if_neg hj,List.getElem?_eq_none (by omega)]
        rw [← e1,List.take_append_drop]
    | _=>rw [hb] at h0; cases h0
theorem weightsAll_mem {H:Type} {P:Program} {e:TypeId}:∀ {ds:List (DataW H)} {d:DataW H} {n:Nat},d ∈ ds→n ∈ d.weights P e→n ∈ DataW.weightsAll P e ds
  | [],_,_,h,_=>by cases h
  | d' :: ds,d,n,h,hn=>by
    rw [DataW.weightsAll,List.mem_append]
    rcases List.mem_cons.1 h with rfl | h
    · exact .inl hn
    · exact .inr (weightsAll_mem h hn)
theorem dec_list {α:Type} [Dat α] {t e:TypeId} (ht:Tryd.prog.underlying t = some (.slice e)) (hc:Tryd.prog.cellsOf t = 1) (hb:1 ≤ Tryd.prog.bytesOf e) (hk:1 ≤ Dat.k α) (he:Apq α e):Apq (List α) t :=
  ⟨hc,fun H enc W fuel cs x h hw=>by
    rcases DataW.trod_slice ht h with ⟨h1,_⟩ | ⟨a,len,cap,Av,rest,n,_,h2,h3,_,h5,_,h6,h7,_,_⟩
    · exact ⟨[],_,h1,none,0,0,rfl,rfl,by omega,Nat.le_refl _,fun i x hx=>by cases hx⟩
    · rw [h3] at hw
      simp only [DataW.weights,ht] at hw
      have hlen:len < 2 ^ 60:=by
        have:=hw _ (List.mem_cons_self ..)
        simp only [List.length_map] at this
        refine reach_lt (Nat.le_trans ?_ this)
        rw [h6]
        exact Nat.le_trans (Nat.le_trans (Nat.le_add_right _ _) (Nat.le_of_eq (Nat.mul_one _).symm)) (Nat.mul_le_mul_left _ hb)
      obtain ⟨xs,hx1,hx2⟩:=list_of (P:=fun i (y:α)=>∃ cs,W.cells? 0 (a.add (i * Tryd.prog.cellsOf e)) (Tryd.prog.cellsOf e) = some cs∧Dat.rep (roW W) cs y) len fun i hi=>by
        have h8:=h7 i hi
        obtain ⟨y,hy⟩:∃ y,Av[i]? = some y:=⟨_,List.getElem?_eq_getElem (by omega)⟩
        rw [hy,Option.bind_eq_some_iff] at h8
        obtain ⟨ci,hc1,hc2⟩:=h8
        obtain ⟨z,hz⟩:=he.2 H enc W n ci y hc2 fun m hm=>hw m (List.mem_cons_of_mem _ (List.mem_append_left _ (weightsAll_mem (List.mem_map_of_mem (List.mem_of_getElem? hy)) hm)))
        exact ⟨z,ci,hc1,hz⟩
      refine ⟨xs,_,h2,some a,len,cap,rfl,hx1,hlen,h5,fun i y hy=>?_⟩
      obtain ⟨b',off',rfl⟩:∃ b' off',a = ⟨b',off',none⟩:=by
        have hi:=(List.getElem?_eq_some_iff.1 hy).1
        obtain ⟨y0,hy0⟩:∃ y0,xs[0]? = some y0:=⟨_,List.getElem?_eq_getElem (by omega)⟩
        obtain ⟨ci,hc1,_⟩:=hx2 0 y0 hy0
        rw [he.1,Nat.zero_mul,add_0] at hc1
        obtain ⟨b,off,_,_,_,_,h8,_⟩:=row_cells hk hc1
        exact ⟨b,off,h8⟩
      obtain ⟨ci,hc1,hc2⟩:=hx2 i y hy
      rw [he.1,add_none] at hc1
      obtain ⟨b,off,c,t',fz,rs,h8,h9,h10,_⟩:=row_cells hk hc1
      simp only [Addr.mk.injEq,and_true] at h8
      obtain ⟨rfl,rfl⟩:=h8
      exact ⟨b',off',rfl,b',_,c,t',fz,ci,rs,rfl,Vs h9,hc2,h10⟩⟩
theorem cut_at (cs:List Value) (a k:Nat):cs.drop a = (cs.drop a).take k ++ cs.drop (a + k):=by rw [← List.drop_drop,List.take_append_drop]
theorem field_at {H:Type} {enc:TypeId × Value→H} {W:World} {n:Nat} {cs:List Value} {xs:List (DataW H × List MemPlace)} {fs:Array Field} {t:TypeId} (ht:Tryd.prog.underlying t = some (.struct fs)) (hl:xs.length = fs.size) (h:∀ (i:Nat) (f:Field),fs[i]? = some f→DataW.trod enc Tryd.prog W 0 (fun _=>true) true n f.type ((cs.drop f.offset).take (Tryd.prog.cellsOf f.type)) = xs[i]?)
    (hw:∀ m ∈ (DataW.agg (xs.map (·.1)):DataW H).weights Tryd.prog t,m ≤ reachBytes) {α:Type} [Dat α] {i ft off:Nat} {f:Field} (hf:fs[i]? = some f) (h1:f.type = ft) (h2:f.offset = off) (hd:Apq α ft):∃ a:α,Dat.rep (roW W) ((cs.drop off).take (Dat.k α)) a:=by
  subst h1 h2
  have hi:=(Array.getElem?_eq_some_iff.1 hf).1
  obtain ⟨y,hy⟩:∃ y,xs[i]? = some y:=⟨_,List.getElem?_eq_getElem (by omega)⟩
  have h3:=h i f hf
  rw [hy,hd.1] at h3
  refine hd.2 H enc W n _ y h3 fun m hm=>hw m ?_
  simp only [DataW.weights,ht]
  exact DataW.weights_mem_each (j:=i) (t:=f.type) (d:=y.1) (by simp [Array.getElem?_toList,hf]) (by simp [hy]) m hm
theorem dec108:Apq FTest 108:=⟨by kernel_rfl,fun H enc W fuel cs x h hw=>by
  obtain ⟨xs,n,_,rfl,hcl,hl,hf⟩:=DataW.trod_struct Tryd.underlying108 h
  rw [show Tryd.prog.cellsOf 108 = 3 from by kernel_rfl] at hcl
  obtain ⟨a0,r0⟩:=field_at (i:=0) Tryd.underlying108 hl hf hw rfl rfl (show _ = 0 from rfl) (dec_str Tryd.underlying9 (by kernel_rfl))
  obtain ⟨a1,r1⟩:=field_at (i:=1) Tryd.underlying108 hl hf hw rfl rfl (show _ = 1 from rfl) (dec_list Tryd.underlying46 (by kernel_rfl) (Nat.le_of_ble_eq_true (by kernel_rfl)) (by decide) (dec_int Tryd.underlying53 (by kernel_rfl)))
  obtain ⟨a2,r2⟩:=field_at (i:=2) Tryd.underlying108 hl hf hw rfl rfl (show _ = 2 from rfl) (dec_bool Tryd.underlying4 (by kernel_rfl))
  refine ⟨⟨a0,a1,a2⟩,?_⟩
  have e0:cs = cs.drop 0:=rfl
  rw [e0]
  exact ⟨(cs.drop 0).take 1,cs.drop 1,(cut_at cs 0 1).trans (by rfl),r0,⟨(cs.drop 1).take 1,cs.drop 2,(cut_at cs 1 1).trans (by rfl),r1,(show Dat.rep (roW W) (cs.drop 2) a2 from by (have:=r2; rw [List.take_of_length_le (by rw [List.length_drop,hcl]; decide)] at this; exact this))⟩⟩⟩
theorem dec40:Apq Lab 40:=⟨by kernel_rfl,fun H enc W fuel cs x h hw=>by
  obtain ⟨xs,n,_,rfl,hcl,hl,hf⟩:=DataW.trod_struct Tryd.underlying40 h
  rw [show Tryd.prog.cellsOf 40 = 3 from by kernel_rfl] at hcl
  obtain ⟨a0,r0⟩:=field_at (i:=0) Tryd.underlying40 hl hf hw rfl rfl (show _ = 0 from rfl) (dec_list Tryd.underlying22 (by kernel_rfl) (Nat.le_of_ble_eq_true (by kernel_rfl)) (by decide) (dec_str Tryd.underlying9 (by kernel_rfl)))
  obtain ⟨a1,r1⟩:=field_at (i:=1) Tryd.underlying40 hl hf hw rfl rfl (show _ = 1 from rfl) (dec_int Tryd.underlying3 (by kernel_rfl))
  obtain ⟨a2,r2⟩:=field_at (i:=2) Tryd.underlying40 hl hf hw rfl rfl (show _ = 2 from rfl) (dec_list Tryd.underlying38 (by kernel_rfl) (Nat.le_of_ble_eq_true (by kernel_rfl)) (by decide) dec108)
  refine ⟨⟨a0,a1,a2⟩,?_⟩
  have e0:cs = cs.drop 0:=rfl
  rw [e0]
  exact ⟨(cs.drop 0).take 1,cs.drop 1,(cut_at cs 0 1).trans (by rfl),r0,⟨(cs.drop 1).take 1,cs.drop 2,(cut_at cs 1 1).trans (by rfl),r1,(show Dat.rep (roW W) (cs.drop 2) a2 from by (have:=r2; rw [List.take_of_length_le (by rw [List.length_drop,hcl]; decide)] at this; exact this))⟩⟩⟩
theorem dec43:Apq Found 43:=⟨by kernel_rfl,fun H enc W fuel cs x h hw=>by
  obtain ⟨xs,n,_,rfl,hcl,hl,hf⟩:=DataW.trod_struct Tryd.underlying43 h
  rw [show Tryd.prog.cellsOf 43 = 2 from by kernel_rfl] at hcl
  obtain ⟨a0,r0⟩:=field_at (i:=0) Tryd.underlying43 hl hf hw rfl rfl (show _ = 0 from rfl) (dec_int Tryd.underlying3 (by kernel_rfl))
  obtain ⟨a1,r1⟩:=field_at (i:=1) Tryd.underlying43 hl hf hw rfl rfl (show _ = 1 from rfl) (dec_bool Tryd.underlying4 (by kernel_rfl))
  refine ⟨⟨a0,a1⟩,?_⟩
  have e0:cs = cs.drop 0:=rfl
  rw [e0]
  exact ⟨(cs.drop 0).take 1,cs.drop 1,(cut_at cs 0 1).trans (by rfl),r0,(show Dat.rep (roW W) (cs.drop 1) a1 from by (have:=r1; rw [List.take_of_length_le (by rw [List.length_drop,hcl]; decide)] at this; exact this))⟩⟩
theorem dec94:Apq FNode 94:=⟨by kernel_rfl,fun H enc W fuel cs x h hw=>by
  obtain ⟨xs,n,_,rfl,hcl,hl,hf⟩:=DataW.trod_struct Tryd.underlying94 h
  rw [show Tryd.prog.cellsOf 94 = 3 from by kernel_rfl] at hcl
  obtain ⟨a0,r0⟩:=field_at (i:=0) Tryd.underlying94 hl hf hw rfl rfl (show _ = 0 from rfl) (dec_int Tryd.underlying3 (by kernel_rfl))
  obtain ⟨a1,r1⟩:=field_at (i:=1) Tryd.underlying94 hl hf hw rfl rfl (show _ = 1 from rfl) (dec_int Tryd.underlying3 (by kernel_rfl))
  obtain ⟨a2,r2⟩:=field_at (i:=2) Tryd.underlying94 hl hf hw rfl rfl (show _ = 2 from rfl) (dec_int Tryd.underlying3 (by kernel_rfl))
  refine ⟨⟨a0,a1,a2⟩,?_⟩
  have e0:cs = cs.drop 0:=rfl
  rw [e0]
  exact ⟨(cs.drop 0).take 1,cs.drop 1,(cut_at cs 0 1).trans (by rfl),r0,⟨(cs.drop 1).take 1,cs.drop 2,(cut_at cs 1 1).trans (by rfl),r1,(show Dat.rep (roW W) (cs.drop 2) a2 from by (have:=r2; rw [List.take_of_length_le (by rw [List.length_drop,hcl]; decide)] at this; exact this))⟩⟩⟩
end Go.Proofs.YtoefdnbaklajeaaDoor

namespace Go.Proofs.YtoefdnbaklajeaaDoor
open Go Go.WideShapes Go.ChangeShapes Go.RowKit Go.Conc
section
variable {H:Type} {enc:TypeId × Value→H} {W:World} {r:Reach} {base t:Nat} {v:Value} {d:DataW H} {p:List MemPlace}
end
theorem weights_at {H:Type} {P:Program} {ts:List TypeId} {ds:List (DataW H)} (h:(DataW.weightsEach P ts ds).all (· ≤ reachBytes) = true) {j:Nat} {t:TypeId} {d:DataW H} (ht:ts[j]? = some t) (hd:ds[j]? = some d):∀ n ∈ d.weights P t,n ≤ reachBytes:=fun n hn=>by
  have:=List.all_eq_true.1 h _ (DataW.weights_mem_each ht hd n hn)
  simpa using this
end Go.Proofs.YtoefdnbaklajeaaDoor

namespace Go.Proofs.YtoefdnbaklajeaaDoor
open Go
theorem okAll_t {s:ByteArray}:(List.range s.size).all (Alz s) = true↔∀ j,j < s.size→Alz s j = true:=by simp
theorem okAll_f {s:ByteArray} {j:Nat} (h:j < s.size) (h0:Alz s j = false):(List.range s.size).all (Alz s) = false:=by
  cases hh:(List.range s.size).all (Alz s) with
  | false=>rfl
  | true=>rw [okAll_t.1 hh j h] at h0; cases h0
end Go.Proofs.YtoefdnbaklajeaaDoor

namespace Go.Proofs.YtoefdnbaklajeaaDoor
open Go
set_option maxRecDepth 100000 in
theorem c_In {mn:Bool} {X:Frame→List Frame→Ro→Own→Cy→Prop} {ρ:Ro} {σ:Own} {n low high:Int} :CallsH (CX mn X) 79 #[(iV (n)),(iV (low)),(iV (high))] ρ σ (fun w ρ' σ'=>ρ' = ρ∧σ' = σ∧w = (.bool (inR n low high))):=by
 refine Bh (n:=15) (args:=[(iV (n)),(iV (low)),(iV (high))]) [6] Tryd.func79 rfl rfl rfl rfl fun Q hret hnor=>?_
 refine w_q rfl rfl fun K1 k1=>?_
 refine l_A (.bool (false)) rfl rfl ?_
 apply Ac
 apply k1
 refine w_q rfl rfl fun K2 k2=>?_
 refine l_M (iV (low)) rfl rfl ?_
 refine l_M (iV (n)) rfl rfl ?_
 refine Aa rfl (Tx (p:=low) (q:=n) rfl rfl) ?_
 refine l_M (.bool (decide (low ≤ n))) rfl rfl ?_
 refine Cn (decide (low ≤ n)) (fun b3=>?_) (fun b3=>?_)
 ·have q3:=of_decide_eq_true b3
  refine l_M (iV (n)) (Ar rfl rfl rfl b3) rfl ?_
  refine l_M (iV (high)) (Ar rfl rfl rfl b3) rfl ?_
  refine Aa (Ar rfl rfl rfl b3) (Tx (p:=n) (q:=high) rfl rfl) ?_
  refine Aa rfl (Bt rfl b3 (v:=(.bool (decide (n ≤ high)))) rfl) ?_
  refine l_A (.bool (decide (n ≤ high))) rfl rfl ?_
  apply Ac
  apply k2
  refine Aq ?_
  refine hret _ _ _ ?_
  refine ⟨rfl,rfl,Eq.trans (b:=(.bool (decide (n ≤ high)))) rfl ?_⟩
  simp only [inR,b3,Bool.true_and,Bool.false_and,Bool.and_true,Bool.and_false,Bool.true_or,Bool.false_or,Bool.or_true,Bool.or_false,Bool.not_true,Bool.not_false]
 have q3:=of_decide_eq_false b3
 refine Ap (Bl rfl rfl rfl b3) ?_
 refine Ap (Bl rfl rfl rfl b3) ?_
 refine Ap (Bl rfl rfl rfl b3) ?_
 refine Aa rfl (Bm rfl b3 (v:=(.bool (false))) rfl) ?_
 refine l_A (.bool (false)) rfl rfl ?_
 apply Ac
 apply k2
 refine Aq ?_
 refine hret _ _ _ ?_
 refine ⟨rfl,rfl,Eq.trans (b:=(.bool (false))) rfl ?_⟩
 simp only [inR,b3,Bool.true_and,Bool.false_and,Bool.and_true,Bool.and_false,Bool.true_or,Bool.false_or,Bool.or_true,Bool.or_false,Bool.not_true,Bool.not_false]
set_option maxRecDepth 100000 in
theorem c_Name {mn:Bool} {X:Frame→List Frame→Ro→Own→Cy→Prop} {ρ:Ro} {σ:Own} {s:ByteArray} :CallsH (CX mn X) 78 #[(.string (s))] ρ σ (fun w ρ' σ'=>ρ' = ρ∧σ' = σ∧w = (.bool (Hi s))):=by
 refine Bh (n:=46) (args:=[(.string (s))]) [2] Tryd.func78 rfl rfl rfl rfl fun Q hret hnor=>?_
 refine w_q rfl rfl fun K1 k1=>?_
 refine l_A (.bool (false)) rfl rfl ?_
 apply Ac
 apply k1
 refine Ai fun K2 k2=>?_
 refine w_q rfl rfl fun K3 k3=>?_
 refine l_M (.string (s)) rfl rfl ?_
 refine Aa rfl (Afb Tryd.underlying9 (s:=s) rfl) ?_
 refine Ae rfl (Bn (vs:=[(iV (((s.size:Nat):Int))),(iV (1)),(iV (14))]) (v:=(.bool (inR (((s.size:Nat):Int)) 1 14))) (c_In) Tryd.func79 rfl rfl ⟨rfl,rfl,rfl,trivial⟩ ?_)
 refine Aa rfl (Ix (k:=inR (((s.size:Nat):Int)) 1 14) rfl) ?_
 refine l_M (.bool (!(inR (((s.size:Nat):Int)) 1 14))) rfl rfl ?_
 refine Cn (!(inR (((s.size:Nat):Int)) 1 14)) (fun b4=>?_) (fun b4=>?_)
 ·have b5:=not_eq_t b4
  have q5:=Ui.1 b5
  refine Ap (Bl rfl rfl rfl b4) ?_
  refine Ap (Bl rfl rfl rfl b4) ?_
  refine Ap (Bl rfl rfl rfl b4) ?_
  refine Aa rfl (Bt rfl b4 (v:=(.bool (true))) rfl) ?_
  refine l_M (.bool (true)) rfl rfl ?_
  refine Ap (Bl rfl rfl rfl rfl) ?_
  refine Ap (Bl rfl rfl rfl rfl) ?_
  refine Ap (Bl rfl rfl rfl rfl) ?_
  refine Aa rfl (Bt rfl rfl (v:=(.bool (true))) rfl) ?_
  apply Ac
  apply k3
  refine Co rfl rfl ?_
  refine w_q rfl rfl fun K6 k6=>?_
  refine l_A (.bool (false)) rfl rfl ?_
  apply Ac
  apply k6
  refine Aq ?_
  refine hret _ _ _ ?_
  refine ⟨rfl,rfl,Eq.trans (b:=(.bool (false))) rfl ?_⟩
  simp only [Hi,Pu,b4,b5,Bool.true_and,Bool.false_and,Bool.and_true,Bool.and_false,Bool.true_or,Bool.false_or,Bool.or_true,Bool.or_false,Bool.not_true,Bool.not_false]
 have b7:=not_eq_f b4
 have q7:=Ge.1 b7
 refine l_M (.string (s)) (Ar rfl rfl rfl b4) rfl ?_
 obtain ⟨c8,hc8⟩:=Alh (s:=s) (i:=0) (by omega)
 refine Aa (Ar rfl rfl rfl b4) (Aaw 0 c8 Tryd.underlying9 rfl (q:=0) rfl rfl hc8) ?_
 refine Aa (Ar rfl rfl rfl b4) (Da (p:=((c8.toNat:Nat):Int)) (q:=97) rfl rfl) ?_
 refine Aa rfl (Bm rfl b4 (v:=(.bool (decide (((c8.toNat:Nat):Int) < 97)))) rfl) ?_
 refine l_M (.bool (decide (((c8.toNat:Nat):Int) < 97))) rfl rfl ?_
 refine Cn (decide (((c8.toNat:Nat):Int) < 97)) (fun b9=>?_) (fun b9=>?_)
 ·have q9:=of_decide_eq_true b9
  refine Ap (Bl rfl rfl rfl b9) ?_
  refine Ap (Bl rfl rfl rfl b9) ?_
  refine Ap (Bl rfl rfl rfl b9) ?_
  refine Aa rfl (Bt rfl b9 (v:=(.bool (true))) rfl) ?_
  apply Ac
  apply k3
  refine Co rfl rfl ?_
  refine w_q rfl rfl fun K10 k10=>?_
  refine l_A (.bool (false)) rfl rfl ?_
  apply Ac
  apply k10
  refine Aq ?_
  refine hret _ _ _ ?_
  refine ⟨rfl,rfl,Eq.trans (b:=(.bool (false))) rfl ?_⟩
  simp only [Hi,Pu,hc8,b4,b7,b9,Bool.true_and,Bool.false_and,Bool.and_true,Bool.and_false,Bool.true_or,Bool.false_or,Bool.or_true,Bool.or_false,Bool.not_true,Bool.not_false]
 have q9:=of_decide_eq_false b9
 refine l_M (.string (s)) (Ar rfl rfl rfl b9) rfl ?_
 refine Aa (Ar rfl rfl rfl b9) (Aaw 0 c8 Tryd.underlying9 rfl (q:=0) rfl rfl hc8) ?_
 refine Aa (Ar rfl rfl rfl b9) (Gk (p:=((c8.toNat:Nat):Int)) (q:=122) rfl rfl) ?_
 refine Aa rfl (Bm rfl b9 (v:=(.bool (decide (((c8.toNat:Nat):Int) > 122)))) rfl) ?_
 apply Ac
 apply k3
 refine As (t:=decide (((c8.toNat:Nat):Int) > 122)) rfl (fun b12=>?_) (fun b12=>?_)
 ·have q12:=of_decide_eq_true b12
  refine w_q rfl rfl fun K13 k13=>?_
  refine l_A (.bool (false)) rfl rfl ?_
  apply Ac
  apply k13
  refine Aq ?_
  refine hret _ _ _ ?_
  refine ⟨rfl,rfl,Eq.trans (b:=(.bool (false))) rfl ?_⟩
  simp only [Hi,Pu,hc8,b4,b7,b9,b12,Bool.true_and,Bool.false_and,Bool.and_true,Bool.and_false,Bool.true_or,Bool.false_or,Bool.or_true,Bool.or_false,Bool.not_true,Bool.not_false]
 have q12:=of_decide_eq_false b12
 refine Al ?_
 apply k2
 refine Ai fun K14 k14=>?_
 refine w_q rfl rfl fun K15 k15=>?_
 refine l_A (iV (0)) rfl rfl ?_
 apply Ac
 apply k15
 refine Ao ?_
 refine Cc (fun mm ee dd ρ' σ'=>∃ (i:Nat),(s.size - i) = mm∧[] = dd∧ρ = ρ'∧σ = σ'∧ee 0 = (.string (s))∧ee 3 = (iV ((i:Int)))∧(i ≤ s.size)∧(∀ j,j < i→Alz s j = true)∧True) (m:=_) ⟨0,rfl,rfl,rfl,rfl,rfl,rfl,(Nat.zero_le _),(fun j h=>absurd h (Nat.not_lt_zero _)),trivial⟩ ?_
 rintro m16 e16 _ _ _ ⟨i,rfl,rfl,rfl,rfl,h16_0,h16_3,p16_0,p16_1,_⟩
 refine Ai fun K17 k17=>?_
 refine w_q rfl rfl fun K18 k18=>?_
 refine Aa rfl (Ah (v:=(iV ((i:Int)))) h16_3) ?_
 refine Aa rfl (Ah (v:=(.string (s))) h16_0) ?_
 refine Aa rfl (Afb Tryd.underlying9 (s:=s) rfl) ?_
 refine Aa rfl (Da (p:=(i:Int)) (q:=((s.size:Nat):Int)) rfl rfl) ?_
 apply Ac
 apply k18
 refine As (t:=decide ((i:Int) < ((s.size:Nat):Int))) rfl (fun b19=>?_) (fun b19=>?_)
 ·have q19:=of_decide_eq_true b19
  refine Al ?_
  apply k17
  refine Ai fun K20 k20=>?_
  refine Ao ?_
  refine w_q rfl rfl fun K21 k21=>?_
  refine Aa rfl (Ah (v:=(.string (s))) h16_0) ?_
  refine Aa rfl (Ah (v:=(iV ((i:Int)))) h16_3) ?_
  obtain ⟨c22,hc22⟩:=Alh (s:=s) (i:=i) (by omega)
  refine Aa rfl (Aaw i c22 Tryd.underlying9 rfl (q:=(i:Int)) rfl rfl hc22) ?_
  refine l_A (.int .u8 (((c22.toNat:Nat):Int))) rfl rfl ?_
  apply Ac
  apply k21
  refine w_q rfl rfl fun K23 k23=>?_
  refine l_M (.int .u8 (((c22.toNat:Nat):Int))) rfl rfl ?_
  refine Aa rfl (Da (p:=((c22.toNat:Nat):Int)) (q:=97) rfl rfl) ?_
  refine l_M (.bool (decide (((c22.toNat:Nat):Int) < 97))) rfl rfl ?_
  refine Cn (decide (((c22.toNat:Nat):Int) < 97)) (fun b24=>?_) (fun b24=>?_)
  ·have q24:=of_decide_eq_true b24
   refine Ap (Bl rfl rfl rfl b24) ?_
   refine Ap (Bl rfl rfl rfl b24) ?_
   refine Aa rfl (Bt rfl b24 (v:=(.bool (true))) rfl) ?_
   refine l_M (.bool (true)) rfl rfl ?_
   refine l_M (.int .u8 (((c22.toNat:Nat):Int))) (Ar rfl rfl rfl rfl) rfl ?_
   refine Aa (Ar rfl rfl rfl rfl) (Da (p:=((c22.toNat:Nat):Int)) (q:=48) rfl rfl) ?_
   refine l_M (.bool (decide (((c22.toNat:Nat):Int) < 48))) (Ar rfl rfl rfl rfl) rfl ?_
   refine Cn (decide (((c22.toNat:Nat):Int) < 48)) (fun b25=>?_) (fun b25=>?_)
   ·have q25:=of_decide_eq_true b25
    refine Ap (Bl rfl rfl rfl b25) ?_
    refine Ap (Bl rfl rfl rfl b25) ?_
    refine Aa (Ar rfl rfl rfl rfl) (Bt rfl b25 (v:=(.bool (true))) rfl) ?_
    refine Aa rfl (Bt rfl rfl (v:=(.bool (true))) rfl) ?_
    refine l_M (.bool (true)) rfl rfl ?_
    refine l_M (.int .u8 (((c22.toNat:Nat):Int))) (Ar rfl rfl rfl rfl) rfl ?_
    refine Aa (Ar rfl rfl rfl rfl) (Dg (p:=((c22.toNat:Nat):Int)) (q:=45) rfl rfl) ?_
    refine Aa rfl (Bt rfl rfl (v:=(.bool (((c22.toNat:Nat):Int) != 45))) rfl) ?_
    apply Ac
    apply k23
    refine As (t:=((c22.toNat:Nat):Int) != 45) rfl (fun b26=>?_) (fun b26=>?_)
    ·have q26:=Mb b26
     refine w_q rfl rfl fun K27 k27=>?_
     refine l_A (.bool (false)) rfl rfl ?_
     apply Ac
     apply k27
     refine Aq ?_
     refine hret _ _ _ ?_
     refine ⟨rfl,rfl,Eq.trans (b:=(.bool (false))) rfl ?_⟩
     have hbad:Alz s i = false:=by simp only [Alz,hc22,Pk,b4,b7,b9,b12,b19,b24,b25,b26,Bool.true_and,Bool.false_and,Bool.and_true,Bool.and_false,Bool.true_or,Bool.false_or,Bool.or_true,Bool.or_false,Bool.not_true,Bool.not_false]
     have hall:=okAll_f (by omega) hbad
     simp only [Hi,hall,b4,b7,b9,b12,b19,b24,b25,b26,Bool.true_and,Bool.false_and,Bool.and_true,Bool.and_false,Bool.true_or,Bool.false_or,Bool.or_true,Bool.or_false,Bool.not_true,Bool.not_false]
    have q26:=Jh b26
    refine Al ?_
    apply k20
    refine Ag rfl rfl ?_
    refine Aa rfl (Ah (v:=(iV ((i:Int)))) h16_3) ?_
    refine Aa rfl (Br (p:=(i:Int)) (q:=1) rfl rfl (z:=(((i + 1):Nat):Int)) (Bo (by first | rfl | omega | (push_cast; rfl)) (by omega) (by omega))) ?_
    refine l_A (iV ((((i + 1):Nat):Int))) rfl rfl ?_
    apply Ac
    refine ⟨_,?_,((i + 1)),rfl,rfl,rfl,rfl,h16_0,rfl,(by omega),(Ef p16_1 (by simp only [Alz,hc22,Pk,b4,b7,b9,b12,b19,b24,b25,b26,Bool.true_and,Bool.false_and,Bool.and_true,Bool.and_false,Bool.true_or,Bool.false_or,Bool.or_true,Bool.or_false,Bool.not_true,Bool.not_false])),trivial⟩
    omega
   have q25:=of_decide_eq_false b25
   refine l_M (.int .u8 (((c22.toNat:Nat):Int))) (Ar rfl rfl rfl b25) rfl ?_
   refine Aa (Ar rfl rfl rfl b25) (Gk (p:=((c22.toNat:Nat):Int)) (q:=57) rfl rfl) ?_
   refine Aa (Ar rfl rfl rfl rfl) (Bm rfl b25 (v:=(.bool (decide (((c22.toNat:Nat):Int) > 57)))) rfl) ?_
   refine Aa rfl (Bt rfl rfl (v:=(.bool (decide (((c22.toNat:Nat):Int) > 57)))) rfl) ?_
   refine l_M (.bool (decide (((c22.toNat:Nat):Int) > 57))) rfl rfl ?_
   refine Cn (decide (((c22.toNat:Nat):Int) > 57)) (fun b28=>?_) (fun b28=>?_)
   ·have q28:=of_decide_eq_true b28
    refine l_M (.int .u8 (((c22.toNat:Nat):Int))) (Ar rfl rfl rfl b28) rfl ?_
    refine Aa (Ar rfl rfl rfl b28) (Dg (p:=((c22.toNat:Nat):Int)) (q:=45) rfl rfl) ?_
    refine Aa rfl (Bt rfl b28 (v:=(.bool (((c22.toNat:Nat):Int) != 45))) rfl) ?_
    apply Ac
    apply k23
    refine As (t:=((c22.toNat:Nat):Int) != 45) rfl (fun b29=>?_) (fun b29=>?_)
    ·have q29:=Mb b29
     refine w_q rfl rfl fun K30 k30=>?_
     refine l_A (.bool (false)) rfl rfl ?_
     apply Ac
     apply k30
     refine Aq ?_
     refine hret _ _ _ ?_
     refine ⟨rfl,rfl,Eq.trans (b:=(.bool (false))) rfl ?_⟩
     have hbad:Alz s i = false:=by simp only [Alz,hc22,Pk,b4,b7,b9,b12,b19,b24,b25,b28,b29,Bool.true_and,Bool.false_and,Bool.and_true,Bool.and_false,Bool.true_or,Bool.false_or,Bool.or_true,Bool.or_false,Bool.not_true,Bool.not_false]
     have hall:=okAll_f (by omega) hbad
     simp only [Hi,hall,b4,b7,b9,b12,b19,b24,b25,b28,b29,Bool.true_and,Bool.false_and,Bool.and_true,Bool.and_false,Bool.true_or,Bool.false_or,Bool.or_true,Bool.or_false,Bool.not_true,Bool.not_false]
    have q29:=Jh b29
    refine Al ?_
    apply k20
    refine Ag rfl rfl ?_
    refine Aa rfl (Ah (v:=(iV ((i:Int)))) h16_3) ?_
    refine Aa rfl (Br (p:=(i:Int)) (q:=1) rfl rfl (z:=(((i + 1):Nat):Int)) (Bo (by first | rfl | omega | (push_cast; rfl)) (by omega) (by omega))) ?_
    refine l_A (iV ((((i + 1):Nat):Int))) rfl rfl ?_
    apply Ac
    refine ⟨_,?_,((i + 1)),rfl,rfl,rfl,rfl,h16_0,rfl,(by omega),(Ef p16_1 (by simp only [Alz,hc22,Pk,b4,b7,b9,b12,b19,b24,b25,b28,b29,Bool.true_and,Bool.false_and,Bool.and_true,Bool.and_false,Bool.true_or,Bool.false_or,Bool.or_true,Bool.or_false,Bool.not_true,Bool.not_false])),trivial⟩
    omega
   have q28:=of_decide_eq_false b28
   refine Ap (Bl rfl rfl rfl b28) ?_
   refine Ap (Bl rfl rfl rfl b28) ?_
   refine Aa rfl (Bm rfl b28 (v:=(.bool (false))) rfl) ?_
   apply Ac
   apply k23
   refine Cg rfl rfl ?_
   refine Al ?_
   apply k20
   refine Ag rfl rfl ?_
   refine Aa rfl (Ah (v:=(iV ((i:Int)))) h16_3) ?_
   refine Aa rfl (Br (p:=(i:Int)) (q:=1) rfl rfl (z:=(((i + 1):Nat):Int)) (Bo (by first | rfl | omega | (push_cast; rfl)) (by omega) (by omega))) ?_
   refine l_A (iV ((((i + 1):Nat):Int))) rfl rfl ?_
   apply Ac
   refine ⟨_,?_,((i + 1)),rfl,rfl,rfl,rfl,h16_0,rfl,(by omega),(Ef p16_1 (by simp only [Alz,hc22,Pk,b4,b7,b9,b12,b19,b24,b25,b28,Bool.true_and,Bool.false_and,Bool.and_true,Bool.and_false,Bool.true_or,Bool.false_or,Bool.or_true,Bool.or_false,Bool.not_true,Bool.not_false])),trivial⟩
   omega
  have q24:=of_decide_eq_false b24
  refine l_M (.int .u8 (((c22.toNat:Nat):Int))) (Ar rfl rfl rfl b24) rfl ?_
  refine Aa (Ar rfl rfl rfl b24) (Gk (p:=((c22.toNat:Nat):Int)) (q:=122) rfl rfl) ?_
  refine Aa rfl (Bm rfl b24 (v:=(.bool (decide (((c22.toNat:Nat):Int) > 122)))) rfl) ?_
  refine l_M (.bool (decide (((c22.toNat:Nat):Int) > 122))) rfl rfl ?_
  refine Cn (decide (((c22.toNat:Nat):Int) > 122)) (fun b31=>?_) (fun b31=>?_)
  ·have q31:=of_decide_eq_true b31
   refine l_M (.int .u8 (((c22.toNat:Nat):Int))) (Ar rfl rfl rfl b31) rfl ?_
   refine Aa (Ar rfl rfl rfl b31) (Da (p:=((c22.toNat:Nat):Int)) (q:=48) rfl rfl) ?_
   refine l_M (.bool (decide (((c22.toNat:Nat):Int) < 48))) (Ar rfl rfl rfl b31) rfl ?_
   refine Cn (decide (((c22.toNat:Nat):Int) < 48)) (fun b32=>?_) (fun b32=>?_)
   ·have q32:=of_decide_eq_true b32
    refine Ap (Bl rfl rfl rfl b32) ?_
    refine Ap (Bl rfl rfl rfl b32) ?_
    refine Aa (Ar rfl rfl rfl b31) (Bt rfl b32 (v:=(.bool (true))) rfl) ?_
    refine Aa rfl (Bt rfl b31 (v:=(.bool (true))) rfl) ?_
    refine l_M (.bool (true)) rfl rfl ?_
    refine l_M (.int .u8 (((c22.toNat:Nat):Int))) (Ar rfl rfl rfl rfl) rfl ?_
    refine Aa (Ar rfl rfl rfl rfl) (Dg (p:=((c22.toNat:Nat):Int)) (q:=45) rfl rfl) ?_
    refine Aa rfl (Bt rfl rfl (v:=(.bool (((c22.toNat:Nat):Int) != 45))) rfl) ?_
    apply Ac
    apply k23
    refine As (t:=((c22.toNat:Nat):Int) != 45) rfl (fun b33=>?_) (fun b33=>?_)
    ·have q33:=Mb b33
     refine w_q rfl rfl fun K34 k34=>?_
     refine l_A (.bool (false)) rfl rfl ?_
     apply Ac
     apply k34
     refine Aq ?_
     refine hret _ _ _ ?_
     refine ⟨rfl,rfl,Eq.trans (b:=(.bool (false))) rfl ?_⟩
     have hbad:Alz s i = false:=by simp only [Alz,hc22,Pk,b4,b7,b9,b12,b19,b24,b31,b32,b33,Bool.true_and,Bool.false_and,Bool.and_true,Bool.and_false,Bool.true_or,Bool.false_or,Bool.or_true,Bool.or_false,Bool.not_true,Bool.not_false]
     have hall:=okAll_f (by omega) hbad
     simp only [Hi,hall,b4,b7,b9,b12,b19,b24,b31,b32,b33,Bool.true_and,Bool.false_and,Bool.and_true,Bool.and_false,Bool.true_or,Bool.false_or,Bool.or_true,Bool.or_false,Bool.not_true,Bool.not_false]
    have q33:=Jh b33
    refine Al ?_
    apply k20
    refine Ag rfl rfl ?_
    refine Aa rfl (Ah (v:=(iV ((i:Int)))) h16_3) ?_
    refine Aa rfl (Br (p:=(i:Int)) (q:=1) rfl rfl (z:=(((i + 1):Nat):Int)) (Bo (by first | rfl | omega | (push_cast; rfl)) (by omega) (by omega))) ?_
    refine l_A (iV ((((i + 1):Nat):Int))) rfl rfl ?_
    apply Ac
    refine ⟨_,?_,((i + 1)),rfl,rfl,rfl,rfl,h16_0,rfl,(by omega),(Ef p16_1 (by simp only [Alz,hc22,Pk,b4,b7,b9,b12,b19,b24,b31,b32,b33,Bool.true_and,Bool.false_and,Bool.and_true,Bool.and_false,Bool.true_or,Bool.false_or,Bool.or_true,Bool.or_false,Bool.not_true,Bool.not_false])),trivial⟩
    omega
   have q32:=of_decide_eq_false b32
   refine l_M (.int .u8 (((c22.toNat:Nat):Int))) (Ar rfl rfl rfl b32) rfl ?_
   refine Aa (Ar rfl rfl rfl b32) (Gk (p:=((c22.toNat:Nat):Int)) (q:=57) rfl rfl) ?_
   refine Aa (Ar rfl rfl rfl b31) (Bm rfl b32 (v:=(.bool (decide (((c22.toNat:Nat):Int) > 57)))) rfl) ?_
   refine Aa rfl (Bt rfl b31 (v:=(.bool (decide (((c22.toNat:Nat):Int) > 57)))) rfl) ?_
   refine l_M (.bool (decide (((c22.toNat:Nat):Int) > 57))) rfl rfl ?_
   refine Cn (decide (((c22.toNat:Nat):Int) > 57)) (fun b35=>?_) (fun b35=>?_)
   ·have q35:=of_decide_eq_true b35
    refine l_M (.int .u8 (((c22.toNat:Nat):Int))) (Ar rfl rfl rfl b35) rfl ?_
    refine Aa (Ar rfl rfl rfl b35) (Dg (p:=((c22.toNat:Nat):Int)) (q:=45) rfl rfl) ?_
    refine Aa rfl (Bt rfl b35 (v:=(.bool (((c22.toNat:Nat):Int) != 45))) rfl) ?_
    apply Ac
    apply k23
    refine As (t:=((c22.toNat:Nat):Int) != 45) rfl (fun b36=>?_) (fun b36=>?_)
    ·have q36:=Mb b36
     refine w_q rfl rfl fun K37 k37=>?_
     refine l_A (.bool (false)) rfl rfl ?_
     apply Ac
     apply k37
     refine Aq ?_
     refine hret _ _ _ ?_
     refine ⟨rfl,rfl,Eq.trans (b:=(.bool (false))) rfl ?_⟩
     have hbad:Alz s i = false:=by simp only [Alz,hc22,Pk,b4,b7,b9,b12,b19,b24,b31,b32,b35,b36,Bool.true_and,Bool.false_and,Bool.and_true,Bool.and_false,Bool.true_or,Bool.false_or,Bool.or_true,Bool.or_false,Bool.not_true,Bool.not_false]
     have hall:=okAll_f (by omega) hbad
     simp only [Hi,hall,b4,b7,b9,b12,b19,b24,b31,b32,b35,b36,Bool.true_and,Bool.false_and,Bool.and_true,Bool.and_false,Bool.true_or,Bool.false_or,Bool.or_true,Bool.or_false,Bool.not_true,Bool.not_false]
    have q36:=Jh b36
    refine Al ?_
    apply k20
    refine Ag rfl rfl ?_
    refine Aa rfl (Ah (v:=(iV ((i:Int)))) h16_3) ?_
    refine Aa rfl (Br (p:=(i:Int)) (q:=1) rfl rfl (z:=(((i + 1):Nat):Int)) (Bo (by first | rfl | omega | (push_cast; rfl)) (by omega) (by omega))) ?_
    refine l_A (iV ((((i + 1):Nat):Int))) rfl rfl ?_
    apply Ac
    refine ⟨_,?_,((i + 1)),rfl,rfl,rfl,rfl,h16_0,rfl,(by omega),(Ef p16_1 (by simp only [Alz,hc22,Pk,b4,b7,b9,b12,b19,b24,b31,b32,b35,b36,Bool.true_and,Bool.false_and,Bool.and_true,Bool.and_false,Bool.true_or,Bool.false_or,Bool.or_true,Bool.or_false,Bool.not_true,Bool.not_false])),trivial⟩
    omega
   have q35:=of_decide_eq_false b35
   refine Ap (Bl rfl rfl rfl b35) ?_
   refine Ap (Bl rfl rfl rfl b35) ?_
   refine Aa rfl (Bm rfl b35 (v:=(.bool (false))) rfl) ?_
   apply Ac
   apply k23
   refine Cg rfl rfl ?_
   refine Al ?_
   apply k20
   refine Ag rfl rfl ?_
   refine Aa rfl (Ah (v:=(iV ((i:Int)))) h16_3) ?_
   refine Aa rfl (Br (p:=(i:Int)) (q:=1) rfl rfl (z:=(((i + 1):Nat):Int)) (Bo (by first | rfl | omega | (push_cast; rfl)) (by omega) (by omega))) ?_
   refine l_A (iV ((((i + 1):Nat):Int))) rfl rfl ?_
   apply Ac
   refine ⟨_,?_,((i + 1)),rfl,rfl,rfl,rfl,h16_0,rfl,(by omega),(Ef p16_1 (by simp only [Alz,hc22,Pk,b4,b7,b9,b12,b19,b24,b31,b32,b35,Bool.true_and,Bool.false_and,Bool.and_true,Bool.and_false,Bool.true_or,Bool.false_or,Bool.or_true,Bool.or_false,Bool.not_true,Bool.not_false])),trivial⟩
   omega
  have q31:=of_decide_eq_false b31
  refine Ap (Bl rfl rfl rfl b31) ?_
  refine Ap (Bl rfl rfl rfl b31) ?_
  refine Ap (Bl rfl rfl rfl b31) ?_
  refine Ap (Jf rfl rfl rfl) ?_
  refine Ap (Jf rfl rfl rfl) ?_
  refine Ap (Bl rfl rfl rfl b31) ?_
  refine Aa rfl (Bm rfl b31 (v:=(.bool (false))) rfl) ?_
  refine l_M (.bool (false)) rfl rfl ?_
  refine Ap (Bl rfl rfl rfl rfl) ?_
  refine Ap (Bl rfl rfl rfl rfl) ?_
  refine Aa rfl (Bm rfl rfl (v:=(.bool (false))) rfl) ?_
  apply Ac
  apply k23
  refine Cg rfl rfl ?_
  refine Al ?_
  apply k20
  refine Ag rfl rfl ?_
  refine Aa rfl (Ah (v:=(iV ((i:Int)))) h16_3) ?_
  refine Aa rfl (Br (p:=(i:Int)) (q:=1) rfl rfl (z:=(((i + 1):Nat):Int)) (Bo (by first | rfl | omega | (push_cast; rfl)) (by omega) (by omega))) ?_
  refine l_A (iV ((((i + 1):Nat):Int))) rfl rfl ?_
  apply Ac
  refine ⟨_,?_,((i + 1)),rfl,rfl,rfl,rfl,h16_0,rfl,(by omega),(Ef p16_1 (by simp only [Alz,hc22,Pk,b4,b7,b9,b12,b19,b24,b31,Bool.true_and,Bool.false_and,Bool.and_true,Bool.and_false,Bool.true_or,Bool.false_or,Bool.or_true,Bool.or_false,Bool.not_true,Bool.not_false])),trivial⟩
  omega
 have q19:=of_decide_eq_false b19
 refine Bx ?_
 apply k14
 refine w_q rfl rfl fun K38 k38=>?_
 refine l_A (.bool (true)) rfl rfl ?_
 apply Ac
 apply k38
 refine Aq ?_
 refine hret _ _ _ ?_
 refine ⟨rfl,rfl,Eq.trans (b:=(.bool (true))) rfl ?_⟩
 have hall:=okAll_t.2 fun j hj=>p16_1 j (by omega)
 simp only [Hi,Pu,hall,hc8,b4,b7,b9,b12,b19,Bool.true_and,Bool.false_and,Bool.and_true,Bool.and_false,Bool.true_or,Bool.false_or,Bool.or_true,Bool.or_false,Bool.not_true,Bool.not_false]
set_option maxRecDepth 100000 in
theorem c_Find {mn:Bool} {X:Frame→List Frame→Ro→Own→Cy→Prop} {ρ:Ro} {σ:Own} {l:List ByteArray} {vl:Value} {s:ByteArray} (rl:Val ρ vl l):CallsH (CX mn X) 114 #[vl,(.string (s))] ρ σ (fun w ρ' σ'=>ρ' = ρ∧σ' = σ∧w = (iV (Ajt l s))):=by
 refine Bh (n:=19) (args:=[vl,(.string (s))]) [4] Tryd.func114 rfl rfl rfl rfl fun Q hret hnor=>?_
 refine w_q rfl rfl fun K1 k1=>?_
 refine l_A (iV (0)) rfl rfl ?_
 apply Ac
 apply k1
 refine Ai fun K2 k2=>?_
 refine w_q rfl rfl fun K3 k3=>?_
 refine l_A (iV (0)) rfl rfl ?_
 apply Ac
 apply k3
 refine Ao ?_
 refine Cc (fun mm ee dd ρ' σ'=>∃ (i:Nat),(l.length - i) = mm∧[] = dd∧ρ = ρ'∧σ = σ'∧ee 0 = vl∧ee 1 = (.string (s))∧ee 5 = (iV ((i:Int)))∧(i ≤ l.length)∧(∀ j,j < i→Xp l s j = false)∧True) (m:=_) ⟨0,rfl,rfl,rfl,rfl,rfl,rfl,rfl,(Nat.zero_le _),(fun j h=>absurd h (Nat.not_lt_zero _)),trivial⟩ ?_
 rintro m4 e4 _ _ _ ⟨i,rfl,rfl,rfl,rfl,h4_0,h4_1,h4_5,p4_0,p4_1,_⟩
 refine Ai fun K5 k5=>?_
 refine w_q rfl rfl fun K6 k6=>?_
 refine Aa rfl (Ah (v:=(iV ((i:Int)))) h4_5) ?_
 refine Aa rfl (Ah (v:=vl) h4_0) ?_
 have g7:=Val.len rl
 refine Aa rfl (Ce (el:=9) Tryd.underlying22 rfl rl) ?_
 refine Aa rfl (Da (p:=(i:Int)) (q:=((l.length:Nat):Int)) rfl rfl) ?_
 apply Ac
 apply k6
 refine As (t:=decide ((i:Int) < ((l.length:Nat):Int))) rfl (fun b8=>?_) (fun b8=>?_)
 ·have q8:=of_decide_eq_true b8
  refine Al ?_
  apply k5
  refine Ai fun K9 k9=>?_
  refine Ao ?_
  refine w_q rfl rfl fun K10 k10=>?_
  refine Aa rfl (Ah (v:=vl) h4_0) ?_
  refine Aa rfl (Ah (v:=(iV ((i:Int)))) h4_5) ?_
  obtain ⟨a12,ha12⟩:=Ed (xs:=l) (i:=i) (by omega)
  refine Ak rfl (Ci i Tryd.underlying22 ty9 rfl rl (q:=(i:Int)) rfl rfl ha12) fun v11 r11=>?_
  have g13:=At.slen r11
  refine Aa rfl (Oz ty9 rfl r11) ?_
  refine Aa rfl (Ah (v:=(.string (s))) h4_1) ?_
  refine Aa rfl (y_eqs (p:=a12) (q:=s) rfl rfl) ?_
  apply Ac
  apply k10
  refine As (t:=(a12).toList == (s).toList) rfl (fun b14=>?_) (fun b14=>?_)
  ·have q14:=Jo b14
   refine w_q rfl rfl fun K15 k15=>?_
   refine Aa rfl (Ah (v:=(iV ((i:Int)))) h4_5) ?_
   refine l_A (iV ((i:Int))) rfl rfl ?_
   apply Ac
   apply k15
   refine Aq ?_
   refine hret _ _ _ ?_
   refine ⟨rfl,rfl,Eq.trans (b:=(iV ((i:Int)))) rfl ?_⟩
   have hi:=Fg (n:=l.length) p4_1 (by omega) (show Xp l s i = true by simp only [Xp,ha12,b8,b14])
   simp only [Ajt,hi]
  have q14:=La b14
  refine Al ?_
  apply k9
  refine Ag rfl rfl ?_
  refine Aa rfl (Ah (v:=(iV ((i:Int)))) h4_5) ?_
  refine Aa rfl (Br (p:=(i:Int)) (q:=1) rfl rfl (z:=(((i + 1):Nat):Int)) (Bo (by first | rfl | omega | (push_cast; rfl)) (by omega) (by omega))) ?_
  refine l_A (iV ((((i + 1):Nat):Int))) rfl rfl ?_
  apply Ac
  refine ⟨_,?_,((i + 1)),rfl,rfl,rfl,rfl,h4_0,h4_1,rfl,(by omega),(Ef p4_1 (by simp only [Xp,ha12,b8,b14])),trivial⟩
  omega
 have q8:=of_decide_eq_false b8
 refine Bx ?_
 apply k2
 refine w_q rfl rfl fun K16 k16=>?_
 refine l_A (iV ((-1))) rfl rfl ?_
 apply Ac
 apply k16
 refine Aq ?_
 refine hret _ _ _ ?_
 refine ⟨rfl,rfl,Eq.trans (b:=(iV ((-1)))) rfl ?_⟩
 have hn:=Ep (n:=l.length) fun j hj=>p4_1 j (by omega)
 simp only [Ajt,hn]
set_option maxRecDepth 100000 in
theorem c_names {mn:Bool} {X:Frame→List Frame→Ro→Own→Cy→Prop} {ρ:Ro} {σ:Own} {l:List ByteArray} {vl:Value} {most:Int} (rl:Val ρ vl l):CallsH (CX mn X) 77 #[vl,(iV (most))] ρ σ (fun w ρ' σ'=>ρ' = ρ∧σ' = σ∧w = (iV (Dd l most))):=by
 refine Bh (n:=31) (args:=[vl,(iV (most))]) [4] Tryd.func77 rfl rfl rfl rfl fun Q hret hnor=>?_
 refine w_q rfl rfl fun K1 k1=>?_
 refine l_A (iV (0)) rfl rfl ?_
 apply Ac
 apply k1
 refine Ai fun K2 k2=>?_
 refine w_q rfl rfl fun K3 k3=>?_
 refine l_M vl rfl rfl ?_
 have g4:=Val.len rl
 refine Aa rfl (Ce (el:=9) Tryd.underlying22 rfl rl) ?_
 refine l_M (iV (most)) rfl rfl ?_
 refine Aa rfl (Gk (p:=((l.length:Nat):Int)) (q:=most) rfl rfl) ?_
 apply Ac
 apply k3
 refine As (t:=decide (((l.length:Nat):Int) > most)) rfl (fun b5=>?_) (fun b5=>?_)
 ·have q5:=of_decide_eq_true b5
  refine w_q rfl rfl fun K6 k6=>?_
  refine l_A (iV (2)) rfl rfl ?_
  apply Ac
  apply k6
  refine Aq ?_
  refine hret _ _ _ ?_
  refine ⟨rfl,rfl,Eq.trans (b:=(iV (2))) rfl ?_⟩
  rw [Dd,if_pos (by omega)]
 have q5:=of_decide_eq_false b5
 refine Al ?_
 apply k2
 refine Ai fun K7 k7=>?_
 refine w_q rfl rfl fun K8 k8=>?_
 refine l_A (iV (0)) rfl rfl ?_
 apply Ac
 apply k8
 refine Ao ?_
 refine Cc (fun mm ee dd ρ' σ'=>∃ (i:Nat),(l.length - i) = mm∧[] = dd∧ρ = ρ'∧σ = σ'∧ee 0 = vl∧ee 5 = (iV ((i:Int)))∧(i ≤ l.length)∧(∀ j,j < i→Nh l j = 0)∧True) (m:=_) ⟨0,rfl,rfl,rfl,rfl,rfl,rfl,(Nat.zero_le _),(fun j h=>absurd h (Nat.not_lt_zero _)),trivial⟩ ?_
 rintro m9 e9 _ _ _ ⟨i,rfl,rfl,rfl,rfl,h9_0,h9_5,p9_0,p9_1,_⟩
 refine Ai fun K10 k10=>?_
 refine w_q rfl rfl fun K11 k11=>?_
 refine Aa rfl (Ah (v:=(iV ((i:Int)))) h9_5) ?_
 refine Aa rfl (Ah (v:=vl) h9_0) ?_
 have g12:=Val.len rl
 refine Aa rfl (Ce (el:=9) Tryd.underlying22 rfl rl) ?_
 refine Aa rfl (Da (p:=(i:Int)) (q:=((l.length:Nat):Int)) rfl rfl) ?_
 apply Ac
 apply k11
 refine As (t:=decide ((i:Int) < ((l.length:Nat):Int))) rfl (fun b13=>?_) (fun b13=>?_)
 ·have q13:=of_decide_eq_true b13
  refine Al ?_
  apply k10
  refine Ai fun K14 k14=>?_
  refine Ao ?_
  refine Ai fun K15 k15=>?_
  refine w_q rfl rfl fun K16 k16=>?_
  refine Aa rfl (Ah (v:=vl) h9_0) ?_
  refine Aa rfl (Ah (v:=(iV ((i:Int)))) h9_5) ?_
  obtain ⟨a18,ha18⟩:=Ed (xs:=l) (i:=i) (by omega)
  refine Ak rfl (Ci i Tryd.underlying22 ty9 rfl rl (q:=(i:Int)) rfl rfl ha18) fun v17 r17=>?_
  have g19:=At.slen r17
  refine Aa rfl (Oz ty9 rfl r17) ?_
  refine Ae rfl (Bn (vs:=[(.string (a18))]) (v:=(.bool (Hi a18))) (c_Name) Tryd.func78 rfl rfl ⟨rfl,trivial⟩ ?_)
  refine Aa rfl (Ix (k:=Hi a18) rfl) ?_
  apply Ac
  apply k16
  refine As (t:=!(Hi a18)) rfl (fun b20=>?_) (fun b20=>?_)
  ·have b21:=not_eq_t b20
   refine w_q rfl rfl fun K22 k22=>?_
   refine l_A (iV (4)) rfl rfl ?_
   apply Ac
   apply k22
   refine Aq ?_
   refine hret _ _ _ ?_
   refine ⟨rfl,rfl,Eq.trans (b:=(iV (4))) rfl ?_⟩
   have hf:Nh l i = 4:=by simp only [Nh,ha18,b5,b13,b20,b21]; first | rfl | omega | (simp; done) | (simp; omega)
   rw [Dd,if_neg (by omega),Db p9_1 (by omega) hf (by omega)]
  have b23:=not_eq_f b20
  refine Al ?_
  apply k15
  refine Ai fun K24 k24=>?_
  refine Dc [0,1,2,3,4,5,6,7,8] (by kernel_rfl) rfl rfl ?_
  refine Be (i:=0) Aov rfl (by kernel_rfl) rfl Ary rfl (Ah (v:=vl) h9_0) ?_
  refine Be (i:=1) Aof rfl (by kernel_rfl) rfl Ary rfl (Ah (v:=(iV ((i:Int)))) h9_5) ?_
  refine Cd (i:=2) Apd rfl (by kernel_rfl) rfl Ary rfl (y_slice_hi i Tryd.underlying22 ty9 rfl rl (q:=(i:Int)) rfl rfl (by omega)) fun v25 r25=>?_
  refine Be (i:=3) Anf rfl (by kernel_rfl) rfl Ary rfl (Ah (v:=vl) h9_0) ?_
  refine Bg (i:=4) Aon rfl (by kernel_rfl) rfl Ary rfl (Ah (v:=(iV ((i:Int)))) h9_5) ?_
  refine Hl (i:=5) Aob rfl (by kernel_rfl) rfl Ary rfl (Ci i Tryd.underlying22 ty9 rfl rl (q:=(i:Int)) rfl rfl ha18) fun v26 r26=>?_
  have g27:=At.slen r26
  refine Bg (i:=6) Aow rfl (by kernel_rfl) rfl Ary rfl (Oz ty9 rfl r26) ?_
  refine Dj (i:=7) Anz rfl (by kernel_rfl) rfl rfl (Bn (vs:=[v25,(.string (a18))]) (v:=(iV (Ajt ((l.take i)) a18))) (c_Find r25) Tryd.func114 rfl rfl ⟨rfl,rfl,trivial⟩ ⟨Ary,?_⟩)
  refine Bg (i:=8) Anb rfl (by kernel_rfl) rfl Ary rfl (Uv (p:=Ajt ((l.take i)) a18) (q:=0) rfl rfl) ?_
  refine Ec rfl ?_
  apply k24
  refine As (t:=decide (Ajt ((l.take i)) a18 ≥ 0)) rfl (fun b28=>?_) (fun b28=>?_)
  ·have q28:=of_decide_eq_true b28
   refine w_q rfl rfl fun K29 k29=>?_
   refine l_A (iV (5)) rfl rfl ?_
   apply Ac
   apply k29
   refine Aq ?_
   refine hret _ _ _ ?_
   refine ⟨rfl,rfl,Eq.trans (b:=(iV (5))) rfl ?_⟩
   have hf:Nh l i = 5:=by simp only [Nh,ha18,b5,b13,b20,b23,b28]; first | rfl | omega | (simp; done) | (simp; omega)
   rw [Dd,if_neg (by omega),Db p9_1 (by omega) hf (by omega)]
  have q28:=of_decide_eq_false b28
  refine Al ?_
  apply k14
  refine Ag rfl rfl ?_
  refine Aa rfl (Ah (v:=(iV ((i:Int)))) h9_5) ?_
  refine Aa rfl (Br (p:=(i:Int)) (q:=1) rfl rfl (z:=(((i + 1):Nat):Int)) (Bo (by first | rfl | omega | (push_cast; rfl)) (by omega) (by omega))) ?_
  refine l_A (iV ((((i + 1):Nat):Int))) rfl rfl ?_
  apply Ac
  refine ⟨_,?_,((i + 1)),rfl,rfl,rfl,rfl,h9_0,rfl,(by omega),(Ef p9_1 (by simp only [Nh,ha18,b5,b13,b20,b23,b28]; first | rfl | omega | (simp; done) | (simp; omega))),trivial⟩
  omega
 have q13:=of_decide_eq_false b13
 refine Bx ?_
 apply k7
 refine w_q rfl rfl fun K30 k30=>?_
 refine l_A (iV (0)) rfl rfl ?_
 apply Ac
 apply k30
 refine Aq ?_
 refine hret _ _ _ ?_
 refine ⟨rfl,rfl,Eq.trans (b:=(iV (0))) rfl ?_⟩
 rw [Dd,if_neg (by omega),Fb fun j hj=>p9_1 j (by omega)]
end Go.Proofs.YtoefdnbaklajeaaDoor

namespace Go.Proofs.YtoefdnbaklajeaaDoor
open Go
theorem testIs_none {l:Lab} {i:Nat} {s:ByteArray} (h:∀ j,j < i→Rm l s j = false):(Cl i (Rm l s)).isSome = false:=Fs.2 h
theorem testIs_some {l:Lab} {i k:Nat} {s:ByteArray} (hk:k < i) (h:Rm l s k = true):(Cl i (Rm l s)).isSome = true:=by
  cases hh:(Cl i (Rm l s)).isSome with
  | true=>rfl
  | false=>rw [Fs.1 hh k hk] at h; cases h
end Go.Proofs.YtoefdnbaklajeaaDoor

namespace Go.Proofs.YtoefdnbaklajeaaDoor
open Go
set_option maxRecDepth 100000 in
theorem c_refCheckLab {mn:Bool} {X:Frame→List Frame→Ro→Own→Cy→Prop} {ρ:Ro} {σ:Own} {l:Lab} {vl:Value} (rl:Val ρ vl l):CallsH (CX mn X) 39 #[vl] ρ σ (fun w ρ' σ'=>ρ' = ρ∧σ' = σ∧w = (iV (Gj l))):=by
 refine Bh (n:=83) (args:=[vl]) [2] Tryd.func39 rfl rfl rfl rfl fun Q hret hnor=>?_
 refine w_q rfl rfl fun K1 k1=>?_
 refine Ae rfl (Eb (v:=vl) rfl fun k2=>?_)
 refine Bb (a:=l) rl fun ρ2 l2 r2=>?_
 replace rl:=Asa l2 rl
 refine l_A (iV (0)) rfl rfl ?_
 apply Ac
 apply k1
 refine Ai fun K3 k3=>?_
 refine w_q rfl rfl fun K4 k4=>?_
 refine Ak rfl (Ay Lab.f_kinds Tryd.underlying40 rfl rfl Hu (by decide) rfl r2) fun v5 r5=>?_
 refine Ak rfl (Ax Hu rfl r5) fun v6 r6=>?_
 refine Ae rfl (Bn (vs:=[v6,(iV (4))]) (v:=(iV (Dd l.kinds 4))) (c_names r6) Tryd.func77 rfl rfl ⟨rfl,rfl,trivial⟩ ?_)
 refine l_A (iV (Dd l.kinds 4)) rfl rfl ?_
 apply Ac
 apply k4
 refine w_q rfl rfl fun K7 k7=>?_
 refine l_M (iV (Dd l.kinds 4)) rfl rfl ?_
 refine Aa rfl (Dg (p:=Dd l.kinds 4) (q:=0) rfl rfl) ?_
 apply Ac
 apply k7
 refine As (t:=Dd l.kinds 4 != 0) rfl (fun b8=>?_) (fun b8=>?_)
 ·have q8:=Mb b8
  refine w_q rfl rfl fun K9 k9=>?_
  refine l_M (iV (Dd l.kinds 4)) rfl rfl ?_
  refine l_A (iV (Dd l.kinds 4)) rfl rfl ?_
  apply Ac
  apply k9
  refine Aj (Arw l2) ?_
  refine Aq ?_
  refine hret _ _ _ ?_
  refine ⟨rfl,rfl,Eq.trans (b:=(iV (Dd l.kinds 4))) rfl ?_⟩
  rw [Gj,Rx q8]
 have q8:=Jh b8
 refine Al ?_
 apply k3
 refine Ai fun K10 k10=>?_
 refine w_q rfl rfl fun K11 k11=>?_
 refine Ak rfl (Ay Lab.f_most Tryd.underlying40 rfl rfl ty3 (by decide) rfl r2) fun v12 r12=>?_
 have ⟨g13a,g13b⟩:=At.rng r12
 refine Aa rfl (Bc ty3 rfl r12) ?_
 refine Ak rfl (Ay Lab.f_kinds Tryd.underlying40 rfl rfl Hu (by decide) rfl r2) fun v14 r14=>?_
 refine Ak rfl (Ax Hu rfl r14) fun v15 r15=>?_
 have g16:=Val.len r15
 refine Aa rfl (Ce (el:=9) Tryd.underlying22 rfl r15) ?_
 refine Ae rfl (Bn (vs:=[(iV (l.most)),(iV (0)),(iV (((l.kinds.length:Nat):Int)))]) (v:=(.bool (inR l.most 0 (((l.kinds.length:Nat):Int))))) (c_In) Tryd.func79 rfl rfl ⟨rfl,rfl,rfl,trivial⟩ ?_)
 refine Aa rfl (Ix (k:=inR l.most 0 (((l.kinds.length:Nat):Int))) rfl) ?_
 apply Ac
 apply k11
 refine As (t:=!(inR l.most 0 (((l.kinds.length:Nat):Int)))) rfl (fun b17=>?_) (fun b17=>?_)
 ·have b18:=not_eq_t b17
  have q18:=Ui.1 b18
  refine w_q rfl rfl fun K19 k19=>?_
  refine l_A (iV (1)) rfl rfl ?_
  apply Ac
  apply k19
  refine Aj (Arw l2) ?_
  refine Aq ?_
  refine hret _ _ _ ?_
  refine ⟨rfl,rfl,Eq.trans (b:=(iV (1))) rfl ?_⟩
  have hi:inR l.most 0 (l.kinds.length:Int) = false:=Ui.2 q18
  rw [Gj,Gt q8,Jw,hi]; rfl
 have b20:=not_eq_f b17
 have q20:=Ge.1 b20
 refine Al ?_
 apply k10
 refine Ai fun K21 k21=>?_
 refine w_q rfl rfl fun K22 k22=>?_
 refine Ak rfl (Ay Lab.f_tests Tryd.underlying40 rfl rfl Vd (by decide) rfl r2) fun v23 r23=>?_
 refine Ak rfl (Ax Vd rfl r23) fun v24 r24=>?_
 have g25:=Val.len r24
 refine Aa rfl (Ce (el:=108) Tryd.underlying38 rfl r24) ?_
 refine Aa rfl (Gk (p:=((l.tests.length:Nat):Int)) (q:=5) rfl rfl) ?_
 apply Ac
 apply k22
 refine As (t:=decide (((l.tests.length:Nat):Int) > 5)) rfl (fun b26=>?_) (fun b26=>?_)
 ·have q26:=of_decide_eq_true b26
  refine w_q rfl rfl fun K27 k27=>?_
  refine l_A (iV (2)) rfl rfl ?_
  apply Ac
  apply k27
  refine Aj (Arw l2) ?_
  refine Aq ?_
  refine hret _ _ _ ?_
  refine ⟨rfl,rfl,Eq.trans (b:=(iV (2))) rfl ?_⟩
  have hi:inR l.most 0 (l.kinds.length:Int) = true:=Ge.2 q20
  rw [Gj,Gt q8,Jw,hi,if_pos rfl,if_pos (by omega)]
 have q26:=of_decide_eq_false b26
 refine Al ?_
 apply k21
 refine Ai fun K28 k28=>?_
 refine w_q rfl rfl fun K29 k29=>?_
 refine l_A (iV (0)) rfl rfl ?_
 apply Ac
 apply k29
 refine Ao ?_
 refine Cc (fun mm ee dd ρ' σ'=>∃ (i:Nat),(l.tests.length - i) = mm∧[] = dd∧ρ2 = ρ'∧σ = σ'∧ee 1 = (.pointer (some ⟨k2,0,none⟩))∧ee 4 = (iV ((i:Int)))∧(i ≤ l.tests.length)∧(∀ j,j < i→Gz l j = 0)∧True) (m:=_) ⟨0,rfl,rfl,rfl,rfl,rfl,rfl,(Nat.zero_le _),(fun j h=>absurd h (Nat.not_lt_zero _)),trivial⟩ ?_
 rintro m30 e30 _ _ _ ⟨i,rfl,rfl,rfl,rfl,h30_1,h30_4,p30_0,p30_1,_⟩
 refine Ai fun K31 k31=>?_
 refine w_q rfl rfl fun K32 k32=>?_
 refine Aa rfl (Ah (v:=(iV ((i:Int)))) h30_4) ?_
 refine Ak rfl (Ay Lab.f_tests Tryd.underlying40 rfl rfl Vd (by decide) h30_1 r2) fun v33 r33=>?_
 refine Ak rfl (Ax Vd rfl r33) fun v34 r34=>?_
 have g35:=Val.len r34
 refine Aa rfl (Ce (el:=108) Tryd.underlying38 rfl r34) ?_
 refine Aa rfl (Da (p:=(i:Int)) (q:=((l.tests.length:Nat):Int)) rfl rfl) ?_
 apply Ac
 apply k32
 refine As (t:=decide ((i:Int) < ((l.tests.length:Nat):Int))) rfl (fun b36=>?_) (fun b36=>?_)
 ·have q36:=of_decide_eq_true b36
  refine Al ?_
  apply k31
  refine Ai fun K37 k37=>?_
  refine Ao ?_
  refine w_q rfl rfl fun K38 k38=>?_
  refine Ak rfl (Ay Lab.f_tests Tryd.underlying40 rfl rfl Vd (by decide) h30_1 r2) fun v39 r39=>?_
  refine Ak rfl (Ax Vd rfl r39) fun v40 r40=>?_
  refine Aa rfl (Ah (v:=(iV ((i:Int)))) h30_4) ?_
  obtain ⟨a42,ha42⟩:=Ed (xs:=l.tests) (i:=i) (by omega)
  refine Ak rfl (Ci i Tryd.underlying38 Td rfl r40 (q:=(i:Int)) rfl rfl ha42) fun v41 r41=>?_
  refine Ak rfl (Ax Td rfl r41) fun v43 r43=>?_
  refine Ae rfl (Ct Vm fun k44=>?_)
  refine Cx rfl (Du (v:=v43) (a:=a42) (c:=Aaf) Td rfl rfl r43 rfl ?_)
  refine Bb (a:=a42) r43 fun ρ45 l45 r45=>?_
  replace r2:=Arv l45 r2
  replace r39:=Arv l45 r39
  replace r40:=Asa l45 r40
  replace r41:=Arv l45 r41
  replace r43:=Asa l45 r43
  apply Ac
  apply k38
  refine Ai fun K46 k46=>?_
  refine w_q rfl rfl fun K47 k47=>?_
  refine Ak rfl (Ay FTest.f_name Tryd.underlying108 rfl rfl ty9 (by decide) rfl r45) fun v48 r48=>?_
  have g49:=At.slen r48
  refine Aa rfl (Oz ty9 rfl r48) ?_
  refine Ae rfl (Bn (vs:=[(.string (a42.name))]) (v:=(.bool (Hi a42.name))) (c_Name) Tryd.func78 rfl rfl ⟨rfl,trivial⟩ ?_)
  refine Aa rfl (Ix (k:=Hi a42.name) rfl) ?_
  apply Ac
  apply k47
  refine As (t:=!(Hi a42.name)) rfl (fun b50=>?_) (fun b50=>?_)
  ·have b51:=not_eq_t b50
   refine w_q rfl rfl fun K52 k52=>?_
   refine l_A (iV (4)) rfl rfl ?_
   apply Ac
   apply k52
   refine Aj (Arw (Arz l2 l45)) ?_
   refine Aq ?_
   refine hret _ _ _ ?_
   refine ⟨rfl,rfl,Eq.trans (b:=(iV (4))) rfl ?_⟩
   have hi:inR l.most 0 (l.kinds.length:Int) = true:=Ge.2 q20
   have hf:Gz l i = 4:=by
    simp [Gz,ha42,b8,b17,b20,b26,b36,b50,b51]
   rw [Gj,Gt q8,Jw,hi,if_pos rfl,if_neg (by omega),Db p30_1 (by omega) hf (by omega)]
  have b53:=not_eq_f b50
  refine Al ?_
  apply k46
  refine Ai fun K54 k54=>?_
  refine w_q rfl rfl fun K55 k55=>?_
  refine l_A (iV (0)) rfl rfl ?_
  apply Ac
  apply k55
  refine Ao ?_
  refine Cc (fun mm ee dd ρ' σ'=>∃ (k:Nat),(i - k) = mm∧[] = dd∧ρ45 = ρ'∧σ = σ'∧ee 1 = (.pointer (some ⟨k2,0,none⟩))∧ee 4 = (iV ((i:Int)))∧ee 5 = (.pointer (some ⟨k44,0,none⟩))∧ee 6 = (iV ((k:Int)))∧(k ≤ i)∧(∀ j,j < k→Rm l a42.name j = false)∧True) (m:=_) ⟨0,rfl,rfl,rfl,rfl,h30_1,h30_4,rfl,rfl,(Nat.zero_le _),(fun j h=>absurd h (Nat.not_lt_zero _)),trivial⟩ ?_
  rintro m56 e56 _ _ _ ⟨k,rfl,rfl,rfl,rfl,h56_1,h56_4,h56_5,h56_6,p56_0,p56_1,_⟩
  refine Ai fun K57 k57=>?_
  refine w_q rfl rfl fun K58 k58=>?_
  refine Aa rfl (Ah (v:=(iV ((k:Int)))) h56_6) ?_
  refine Aa rfl (Ah (v:=(iV ((i:Int)))) h56_4) ?_
  refine Aa rfl (Da (p:=(k:Int)) (q:=(i:Int)) rfl rfl) ?_
  apply Ac
  apply k58
  refine As (t:=decide ((k:Int) < (i:Int))) rfl (fun b59=>?_) (fun b59=>?_)
  ·have q59:=of_decide_eq_true b59
   refine Al ?_
   apply k57
   refine Ai fun K60 k60=>?_
   refine Ao ?_
   refine Ai fun K61 k61=>?_
   refine Dc [0,1,2,3,4,5,6,7,8] (by kernel_rfl) rfl rfl ?_
   refine Cd (i:=0) Aov rfl (by kernel_rfl) rfl Ary rfl (Ay Lab.f_tests Tryd.underlying40 rfl rfl Vd (by decide) h56_1 r2) fun v62 r62=>?_
   refine Cd (i:=1) Aof rfl (by kernel_rfl) rfl Ary rfl (Ax Vd rfl r62) fun v63 r63=>?_
   refine Be (i:=2) Apd rfl (by kernel_rfl) rfl Ary rfl (Ah (v:=(iV ((k:Int)))) h56_6) ?_
   obtain ⟨a65,ha65⟩:=Ed (xs:=l.tests) (i:=k) (by omega)
   refine Cd (i:=3) Anf rfl (by kernel_rfl) rfl Ary rfl (Ci k Tryd.underlying38 Td rfl r63 (q:=(k:Int)) rfl rfl ha65) fun v64 r64=>?_
   refine Cd (i:=4) Aon rfl (by kernel_rfl) rfl Ary rfl (Ay FTest.f_name Tryd.underlying108 rfl rfl ty9 (by decide) rfl r64) fun v66 r66=>?_
   have g67:=At.slen r66
   refine Be (i:=5) Aob rfl (by kernel_rfl) rfl Ary rfl (Oz ty9 rfl r66) ?_
   refine Hl (i:=6) Aow rfl (by kernel_rfl) rfl Ary rfl (Ay FTest.f_name Tryd.underlying108 rfl rfl ty9 (by decide) h56_5 r45) fun v68 r68=>?_
   have g69:=At.slen r68
   refine Bg (i:=7) Anz rfl (by kernel_rfl) rfl Ary rfl (Oz ty9 rfl r68) ?_
   refine Bg (i:=8) Anb rfl (by kernel_rfl) rfl Ary rfl (y_eqs (p:=a65.name) (q:=a42.name) rfl rfl) ?_
   refine Ec rfl ?_
   apply k61
   refine As (t:=(a65.name).toList == (a42.name).toList) rfl (fun b70=>?_) (fun b70=>?_)
   ·have q70:=Jo b70
    refine w_q rfl rfl fun K71 k71=>?_
    refine l_A (iV (5)) rfl rfl ?_
    apply Ac
    apply k71
    refine Aj (Arw (Arz l2 l45)) ?_
    refine Aq ?_
    refine hret _ _ _ ?_
    refine ⟨rfl,rfl,Eq.trans (b:=(iV (5))) rfl ?_⟩
    have hi:inR l.most 0 (l.kinds.length:Int) = true:=Ge.2 q20
    have hf:Gz l i = 5:=by
     have htw:=testIs_some (show k < i by omega) (show Rm l a42.name k = true by simp [Rm,ha65,b8,b17,b20,b26,b36,b50,b53,b59,b70,q8,q20,q26,q36,q59,q70])
     simp [Gz,ha42,htw,b8,b17,b20,b26,b36,b50,b53,b59,b70]
    rw [Gj,Gt q8,Jw,hi,if_pos rfl,if_neg (by omega),Db p30_1 (by omega) hf (by omega)]
   have q70:=La b70
   refine Al ?_
   apply k60
   refine Ag rfl rfl ?_
   refine Aa rfl (Ah (v:=(iV ((k:Int)))) h56_6) ?_
   refine Aa rfl (Br (p:=(k:Int)) (q:=1) rfl rfl (z:=(((k + 1):Nat):Int)) (Bo (by first | rfl | omega | (push_cast; rfl)) (by omega) (by omega))) ?_
   refine l_A (iV ((((k + 1):Nat):Int))) rfl rfl ?_
   apply Ac
   refine ⟨_,?_,((k + 1)),rfl,rfl,rfl,rfl,h56_1,h56_4,h56_5,rfl,(by omega),(Ef p56_1 (by simp [Rm,ha65,b8,b17,b20,b26,b36,b50,b53,b59,b70,q8,q20,q26,q36,q59,q70])),trivial⟩
   omega
  have q59:=of_decide_eq_false b59
  refine Bx ?_
  apply k54
  refine Ai fun K72 k72=>?_
  refine w_q rfl rfl fun K73 k73=>?_
  refine Ak rfl (Ay FTest.f_sees Tryd.underlying108 rfl rfl Aex (by decide) h56_5 r45) fun v74 r74=>?_
  refine Ak rfl (Ax Aex rfl r74) fun v75 r75=>?_
  have g76:=Val.len r75
  refine Aa rfl (Ce (el:=53) Tryd.underlying46 rfl r75) ?_
  refine Ak rfl (Ay Lab.f_kinds Tryd.underlying40 rfl rfl Hu (by decide) h56_1 r2) fun v77 r77=>?_
  refine Ak rfl (Ax Hu rfl r77) fun v78 r78=>?_
  have g79:=Val.len r78
  refine Aa rfl (Ce (el:=9) Tryd.underlying22 rfl r78) ?_
  refine Aa rfl (Dg (p:=((a42.sees.length:Nat):Int)) (q:=((l.kinds.length:Nat):Int)) rfl rfl) ?_
  apply Ac
  apply k73
  refine As (t:=((a42.sees.length:Nat):Int) != ((l.kinds.length:Nat):Int)) rfl (fun b80=>?_) (fun b80=>?_)
  ·have q80:=Mb b80
   refine w_q rfl rfl fun K81 k81=>?_
   refine l_A (iV (2)) rfl rfl ?_
   apply Ac
   apply k81
   refine Aj (Arw (Arz l2 l45)) ?_
   refine Aq ?_
   refine hret _ _ _ ?_
   refine ⟨rfl,rfl,Eq.trans (b:=(iV (2))) rfl ?_⟩
   have hi:inR l.most 0 (l.kinds.length:Int) = true:=Ge.2 q20
   have hf:Gz l i = 2:=by
    have htw:=(testIs_none fun j hj=>p56_1 j (by omega):(Cl i (Rm l a42.name)).isSome = false)
    simp only [Gz,ha42,htw,b8,b17,b20,b26,b36,b50,b53,b59,b80,if_true,Bool.false_eq_true,if_false]
    rw [if_neg (by omega)]
   rw [Gj,Gt q8,Jw,hi,if_pos rfl,if_neg (by omega),Db p30_1 (by omega) hf (by omega)]
  have q80:=Jh b80
  refine Al ?_
  apply k72
  refine w_q rfl rfl fun K82 k82=>?_
  refine l_A (iV (0)) rfl rfl ?_
  apply Ac
  apply k82
  refine Ao ?_
  refine Cc (fun mm ee dd ρ' σ'=>∃ (q:Nat),(a42.sees.length - q) = mm∧[] = dd∧ρ45 = ρ'∧σ = σ'∧ee 1 = (.pointer (some ⟨k2,0,none⟩))∧ee 4 = (iV ((i:Int)))∧ee 5 = (.pointer (some ⟨k44,0,none⟩))∧ee 7 = (iV ((q:Int)))∧(q ≤ a42.sees.length)∧(∀ j,j < q→Nb a42 j = 0)∧True) (m:=_) ⟨0,rfl,rfl,rfl,rfl,h56_1,h56_4,h56_5,rfl,(Nat.zero_le _),(fun j h=>absurd h (Nat.not_lt_zero _)),trivial⟩ ?_
  rintro m83 e83 _ _ _ ⟨q,rfl,rfl,rfl,rfl,h83_1,h83_4,h83_5,h83_7,p83_0,p83_1,_⟩
  refine Ai fun K84 k84=>?_
  refine w_q rfl rfl fun K85 k85=>?_
  refine Aa rfl (Ah (v:=(iV ((q:Int)))) h83_7) ?_
  refine Ak rfl (Ay FTest.f_sees Tryd.underlying108 rfl rfl Aex (by decide) h83_5 r45) fun v86 r86=>?_
  refine Ak rfl (Ax Aex rfl r86) fun v87 r87=>?_
  have g88:=Val.len r87
  refine Aa rfl (Ce (el:=53) Tryd.underlying46 rfl r87) ?_
  refine Aa rfl (Da (p:=(q:Int)) (q:=((a42.sees.length:Nat):Int)) rfl rfl) ?_
  apply Ac
  apply k85
  refine As (t:=decide ((q:Int) < ((a42.sees.length:Nat):Int))) rfl (fun b89=>?_) (fun b89=>?_)
  ·have q89:=of_decide_eq_true b89
   refine Al ?_
   apply k84
   refine Ai fun K90 k90=>?_
   refine Ao ?_
   refine w_q rfl rfl fun K91 k91=>?_
   refine Ak rfl (Ay FTest.f_sees Tryd.underlying108 rfl rfl Aex (by decide) h83_5 r45) fun v92 r92=>?_
   refine Ak rfl (Ax Aex rfl r92) fun v93 r93=>?_
   refine Aa rfl (Ah (v:=(iV ((q:Int)))) h83_7) ?_
   obtain ⟨a95,ha95⟩:=Ed (xs:=a42.sees) (i:=q) (by omega)
   refine Ak rfl (Ci q Tryd.underlying46 Ov rfl r93 (q:=(q:Int)) rfl rfl ha95) fun v94 r94=>?_
   have ⟨g96a,g96b⟩:=At.rng r94
   refine Aa rfl (Bc Ov rfl r94) ?_
   refine Aa rfl (Da (p:=a95) (q:=0) rfl rfl) ?_
   refine l_M (.bool (decide (a95 < 0))) rfl rfl ?_
   refine Cn (decide (a95 < 0)) (fun b97=>?_) (fun b97=>?_)
   ·have q97:=of_decide_eq_true b97
    refine Ap (Bl rfl rfl rfl b97) ?_
    refine Ap (Bl rfl rfl rfl b97) ?_
    refine Ap (Bl rfl rfl rfl b97) ?_
    refine Ap (Bl rfl rfl rfl b97) ?_
    refine Ap (Bl rfl rfl rfl b97) ?_
    refine Ap (Bl rfl rfl rfl b97) ?_
    refine Aa rfl (Bt rfl b97 (v:=(.bool (true))) rfl) ?_
    apply Ac
    apply k91
    refine Co rfl rfl ?_
    refine w_q rfl rfl fun K98 k98=>?_
    refine l_A (iV (1)) rfl rfl ?_
    apply Ac
    apply k98
    refine Aj (Arw (Arz l2 l45)) ?_
    refine Aq ?_
    refine hret _ _ _ ?_
    refine ⟨rfl,rfl,Eq.trans (b:=(iV (1))) rfl ?_⟩
    have hi:inR l.most 0 (l.kinds.length:Int) = true:=Ge.2 q20
    have hf:Gz l i = 1:=by
     have htw:=(testIs_none fun j hj=>p56_1 j (by omega):(Cl i (Rm l a42.name)).isSome = false)
     have hq:Nb a42 q = 1:=by simp only [Nb,ha95,b8,b17,b20,b26,b36,b50,b53,b59,b80,b89,b97,Bool.true_and,Bool.false_and,Bool.and_true,Bool.and_false,Bool.true_or,Bool.false_or,Bool.or_true,Bool.or_false,Bool.not_true,Bool.not_false]; rfl
     simp only [Gz,ha42,htw,b8,b17,b20,b26,b36,b50,b53,b59,b80,b89,b97,if_true,Bool.false_eq_true,if_false]
     rw [if_pos (by omega),Db p83_1 (by omega) hq (by omega)]
    rw [Gj,Gt q8,Jw,hi,if_pos rfl,if_neg (by omega),Db p30_1 (by omega) hf (by omega)]
   have q97:=of_decide_eq_false b97
   refine Ak (Ar rfl rfl rfl b97) (Ay FTest.f_sees Tryd.underlying108 rfl rfl Aex (by decide) h83_5 r45) fun v99 r99=>?_
   refine Ak (Ar rfl rfl rfl b97) (Ax Aex rfl r99) fun v100 r100=>?_
   refine Aa (Ar rfl rfl rfl b97) (Ah (v:=(iV ((q:Int)))) h83_7) ?_
   refine Ak (Ar rfl rfl rfl b97) (Ci q Tryd.underlying46 Ov rfl r100 (q:=(q:Int)) rfl rfl ha95) fun v101 r101=>?_
   have ⟨g102a,g102b⟩:=At.rng r101
   refine Aa (Ar rfl rfl rfl b97) (Bc Ov rfl r101) ?_
   refine Aa (Ar rfl rfl rfl b97) (Gk (p:=a95) (q:=2) rfl rfl) ?_
   refine Aa rfl (Bm rfl b97 (v:=(.bool (decide (a95 > 2)))) rfl) ?_
   apply Ac
   apply k91
   refine As (t:=decide (a95 > 2)) rfl (fun b103=>?_) (fun b103=>?_)
   ·have q103:=of_decide_eq_true b103
    refine w_q rfl rfl fun K104 k104=>?_
    refine l_A (iV (1)) rfl rfl ?_
    apply Ac
    apply k104
    refine Aj (Arw (Arz l2 l45)) ?_
    refine Aq ?_
    refine hret _ _ _ ?_
    refine ⟨rfl,rfl,Eq.trans (b:=(iV (1))) rfl ?_⟩
    have hi:inR l.most 0 (l.kinds.length:Int) = true:=Ge.2 q20
    have hf:Gz l i = 1:=by
     have htw:=(testIs_none fun j hj=>p56_1 j (by omega):(Cl i (Rm l a42.name)).isSome = false)
     have hq:Nb a42 q = 1:=by simp only [Nb,ha95,b8,b17,b20,b26,b36,b50,b53,b59,b80,b89,b97,b103,Bool.true_and,Bool.false_and,Bool.and_true,Bool.and_false,Bool.true_or,Bool.false_or,Bool.or_true,Bool.or_false,Bool.not_true,Bool.not_false]; rfl
     simp only [Gz,ha42,htw,b8,b17,b20,b26,b36,b50,b53,b59,b80,b89,b97,b103,if_true,Bool.false_eq_true,if_false]
     rw [if_pos (by omega),Db p83_1 (by omega) hq (by omega)]
    rw [Gj,Gt q8,Jw,hi,if_pos rfl,if_neg (by omega),Db p30_1 (by omega) hf (by omega)]
   have q103:=of_decide_eq_false b103
   refine Al ?_
   apply k90
   refine Ag rfl rfl ?_
   refine Aa rfl (Ah (v:=(iV ((q:Int)))) h83_7) ?_
   refine Aa rfl (Br (p:=(q:Int)) (q:=1) rfl rfl (z:=(((q + 1):Nat):Int)) (Bo (by first | rfl | omega | (push_cast; rfl)) (by omega) (by omega))) ?_
   refine l_A (iV ((((q + 1):Nat):Int))) rfl rfl ?_
   apply Ac
   refine ⟨_,?_,((q + 1)),rfl,rfl,rfl,rfl,h83_1,h83_4,h83_5,rfl,(by omega),(Ef p83_1 (by simp only [Nb,ha95,b8,b17,b20,b26,b36,b50,b53,b59,b80,b89,b97,b103,Bool.true_and,Bool.false_and,Bool.and_true,Bool.and_false,Bool.true_or,Bool.false_or,Bool.or_true,Bool.or_false,Bool.not_true,Bool.not_false]; rfl)),trivial⟩
   omega
  have q89:=of_decide_eq_false b89
  refine Bx ?_
  apply k37
  refine Ag rfl rfl ?_
  refine Aa rfl (Ah (v:=(iV ((i:Int)))) h83_4) ?_
  refine Aa rfl (Br (p:=(i:Int)) (q:=1) rfl rfl (z:=(((i + 1):Nat):Int)) (Bo (by first | rfl | omega | (push_cast; rfl)) (by omega) (by omega))) ?_
  refine l_A (iV ((((i + 1):Nat):Int))) rfl rfl ?_
  refine Bj (Arw l45) ?_
  apply Ac
  refine ⟨_,?_,((i + 1)),rfl,rfl,rfl,rfl,h83_1,rfl,(by omega),(Ef p30_1 (by
 have htw:=(testIs_none fun j hj=>p56_1 j (by omega):(Cl i (Rm l a42.name)).isSome = false)
 simp only [Gz,ha42,htw,b8,b17,b20,b26,b36,b50,b53,b59,b80,b89,if_true,Bool.false_eq_true,if_false]
 rw [if_pos (by omega),Fb fun j hj=>p83_1 j (by omega)])),trivial⟩
  omega
 have q36:=of_decide_eq_false b36
 refine Bx ?_
 apply k28
 refine w_q rfl rfl fun K105 k105=>?_
 refine l_A (iV (0)) rfl rfl ?_
 apply Ac
 apply k105
 refine Aj (Arw l2) ?_
 refine Aq ?_
 refine hret _ _ _ ?_
 refine ⟨rfl,rfl,Eq.trans (b:=(iV (0))) rfl ?_⟩
 have hi:inR l.most 0 (l.kinds.length:Int) = true:=Ge.2 q20
 rw [Gj,Gt q8,Jw,hi,if_pos rfl,if_neg (by omega),Fb fun j hj=>p30_1 j (by omega)]
set_option maxRecDepth 100000 in
theorem c_refcheckResults {mn:Bool} {X:Frame→List Frame→Ro→Own→Cy→Prop} {ρ:Ro} {σ:Own} {l:Lab} {vl vr:Value} {rs:List Found} (rl:Val ρ vl l) (rr:Val ρ vr rs):CallsH (CX mn X) 66 #[vl,vr] ρ σ (fun w ρ' σ'=>ρ' = ρ∧σ' = σ∧w = (iV (Hw l rs))):=by
 refine Bh (n:=32) (args:=[vl,vr]) [4] Tryd.func66 rfl rfl rfl rfl fun Q hret hnor=>?_
 refine w_q rfl rfl fun K1 k1=>?_
 refine Ae rfl (Eb (v:=vl) rfl fun k2=>?_)
 refine Bb (a:=l) rl fun ρ2 l2 r2=>?_
 replace rl:=Asa l2 rl
 replace rr:=Asa l2 rr
 refine l_A (iV (0)) rfl rfl ?_
 apply Ac
 apply k1
 refine Ai fun K3 k3=>?_
 refine w_q rfl rfl fun K4 k4=>?_
 refine Ak rfl (Ax Aaj rfl r2) fun v5 r5=>?_
 refine Ae rfl (Bn (vs:=[v5]) (v:=(iV (Gj l))) (c_refCheckLab r5) Tryd.func39 rfl rfl ⟨rfl,trivial⟩ ?_)
 refine l_A (iV (Gj l)) rfl rfl ?_
 apply Ac
 apply k4
 refine w_q rfl rfl fun K6 k6=>?_
 refine l_M (iV (Gj l)) rfl rfl ?_
 refine Aa rfl (Dg (p:=Gj l) (q:=0) rfl rfl) ?_
 apply Ac
 apply k6
 refine As (t:=Gj l != 0) rfl (fun b7=>?_) (fun b7=>?_)
 ·have q7:=Mb b7
  refine w_q rfl rfl fun K8 k8=>?_
  refine l_M (iV (Gj l)) rfl rfl ?_
  refine l_A (iV (Gj l)) rfl rfl ?_
  apply Ac
  apply k8
  refine Aj (Arw l2) ?_
  refine Aq ?_
  refine hret _ _ _ ?_
  refine ⟨rfl,rfl,Eq.trans (b:=(iV (Gj l))) rfl ?_⟩
  rw [Hw,Rx q7]
 have q7:=Jh b7
 refine Al ?_
 apply k3
 refine Ai fun K9 k9=>?_
 refine w_q rfl rfl fun K10 k10=>?_
 refine l_M vr rfl rfl ?_
 have g11:=Val.len rr
 refine Aa rfl (Ce (el:=43) Tryd.underlying41 rfl rr) ?_
 refine Aa rfl (Gk (p:=((rs.length:Nat):Int)) (q:=8) rfl rfl) ?_
 apply Ac
 apply k10
 refine As (t:=decide (((rs.length:Nat):Int) > 8)) rfl (fun b12=>?_) (fun b12=>?_)
 ·have q12:=of_decide_eq_true b12
  refine w_q rfl rfl fun K13 k13=>?_
  refine l_A (iV (2)) rfl rfl ?_
  apply Ac
  apply k13
  refine Aj (Arw l2) ?_
  refine Aq ?_
  refine hret _ _ _ ?_
  refine ⟨rfl,rfl,Eq.trans (b:=(iV (2))) rfl ?_⟩
  rw [Hw,Gt q7,if_pos (by omega)]
 have q12:=of_decide_eq_false b12
 refine Al ?_
 apply k9
 refine Ai fun K14 k14=>?_
 refine w_q rfl rfl fun K15 k15=>?_
 refine l_A (iV (0)) rfl rfl ?_
 apply Ac
 apply k15
 refine Ao ?_
 refine Cc (fun mm ee dd ρ' σ'=>∃ (i:Nat),(rs.length - i) = mm∧[] = dd∧ρ2 = ρ'∧σ = σ'∧ee 1 = vr∧ee 2 = (.pointer (some ⟨k2,0,none⟩))∧ee 6 = (iV ((i:Int)))∧(i ≤ rs.length)∧(∀ j,j < i→Vw l rs j = 0)∧True) (m:=_) ⟨0,rfl,rfl,rfl,rfl,rfl,rfl,rfl,(Nat.zero_le _),(fun j h=>absurd h (Nat.not_lt_zero _)),trivial⟩ ?_
 rintro m16 e16 _ _ _ ⟨i,rfl,rfl,rfl,rfl,h16_1,h16_2,h16_6,p16_0,p16_1,_⟩
 refine Ai fun K17 k17=>?_
 refine w_q rfl rfl fun K18 k18=>?_
 refine Aa rfl (Ah (v:=(iV ((i:Int)))) h16_6) ?_
 refine Aa rfl (Ah (v:=vr) h16_1) ?_
 have g19:=Val.len rr
 refine Aa rfl (Ce (el:=43) Tryd.underlying41 rfl rr) ?_
 refine Aa rfl (Da (p:=(i:Int)) (q:=((rs.length:Nat):Int)) rfl rfl) ?_
 apply Ac
 apply k18
 refine As (t:=decide ((i:Int) < ((rs.length:Nat):Int))) rfl (fun b20=>?_) (fun b20=>?_)
 ·have q20:=of_decide_eq_true b20
  refine Al ?_
  apply k17
  refine Ai fun K21 k21=>?_
  refine Ao ?_
  refine Ai fun K22 k22=>?_
  refine Dc [0,1,2,3,4,5,6,7,8,9,10] (by kernel_rfl) rfl rfl ?_
  refine Be (i:=0) [o1,o0,o0,o0,o0,o0,o0,o0,o0,o0,o0] rfl (by kernel_rfl) rfl Ary rfl (Ah (v:=vr) h16_1) ?_
  refine Be (i:=1) [o1,o1,o0,o0,o0,o0,o0,o0,o0,o0,o0] rfl (by kernel_rfl) rfl Ary rfl (Ah (v:=(iV ((i:Int)))) h16_6) ?_
  obtain ⟨a24,ha24⟩:=Ed (xs:=rs) (i:=i) (by omega)
  refine Cd (i:=2) [o1,o1,o1,o0,o0,o0,o0,o0,o0,o0,o0] rfl (by kernel_rfl) rfl Ary rfl (Ci i Tryd.underlying41 Aax rfl rr (q:=(i:Int)) rfl rfl ha24) fun v23 r23=>?_
  refine Cd (i:=3) [o1,o1,o1,o1,o0,o0,o0,o0,o0,o0,o0] rfl (by kernel_rfl) rfl Ary rfl (Ay Found.f_test Tryd.underlying43 rfl rfl ty3 (by decide) rfl r23) fun v25 r25=>?_
  have ⟨g26a,g26b⟩:=At.rng r25
  refine Be (i:=4) [o1,o1,o1,o1,o1,o0,o0,o0,o0,o0,o0] rfl (by kernel_rfl) rfl Ary rfl (Bc ty3 rfl r25) ?_
  refine Hl (i:=5) Apb rfl (by kernel_rfl) rfl Ary rfl (Ay Lab.f_tests Tryd.underlying40 rfl rfl Vd (by decide) h16_2 r2) fun v27 r27=>?_
  refine Hl (i:=6) zZ2 rfl (by kernel_rfl) rfl Ary rfl (Ax Vd rfl r27) fun v28 r28=>?_
  have g29:=Val.len r28
  refine Bg (i:=7) zZ3 rfl (by kernel_rfl) rfl Ary rfl (Ce (el:=108) Tryd.underlying38 rfl r28) ?_
  refine Bg (i:=8) zZ4 rfl (by kernel_rfl) rfl Ary rfl (Oq (p:=((l.tests.length:Nat):Int)) (q:=1) rfl rfl (z:=(((l.tests.length:Nat):Int) - 1)) (Bo (by first | rfl | omega | (push_cast; rfl)) (by omega) (by omega))) ?_
  refine Dj (i:=9) zZ5 rfl (by kernel_rfl) rfl rfl (Bn (vs:=[(iV (a24.test)),(iV (0)),(iV ((((l.tests.length:Nat):Int) - 1)))]) (v:=(.bool (inR a24.test 0 ((((l.tests.length:Nat):Int) - 1))))) (c_In) Tryd.func79 rfl rfl ⟨rfl,rfl,rfl,trivial⟩ ⟨Ary,?_⟩)
  refine Bg (i:=10) zZ6 rfl (by kernel_rfl) rfl Ary rfl (Ix (k:=inR a24.test 0 ((((l.tests.length:Nat):Int) - 1))) rfl) ?_
  refine Ec rfl ?_
  apply k22
  refine As (t:=!(inR a24.test 0 ((((l.tests.length:Nat):Int) - 1)))) rfl (fun b30=>?_) (fun b30=>?_)
  ·have b31:=not_eq_t b30
   have q31:=Ui.1 b31
   refine w_q rfl rfl fun K32 k32=>?_
   refine l_A (iV (6)) rfl rfl ?_
   apply Ac
   apply k32
   refine Aj (Arw l2) ?_
   refine Aq ?_
   refine hret _ _ _ ?_
   refine ⟨rfl,rfl,Eq.trans (b:=(iV (6))) rfl ?_⟩
   have hf:Vw l rs i = 6:=by simp [Vw,ha24,b7,b12,b20,b30,b31]
   rw [Hw,Gt q7,if_neg (by omega),Db p16_1 (by omega) hf (by omega)]
  have b33:=not_eq_f b30
  have q33:=Ge.1 b33
  refine Al ?_
  apply k21
  refine Ag rfl rfl ?_
  refine Aa rfl (Ah (v:=(iV ((i:Int)))) h16_6) ?_
  refine Aa rfl (Br (p:=(i:Int)) (q:=1) rfl rfl (z:=(((i + 1):Nat):Int)) (Bo (by first | rfl | omega | (push_cast; rfl)) (by omega) (by omega))) ?_
  refine l_A (iV ((((i + 1):Nat):Int))) rfl rfl ?_
  apply Ac
  refine ⟨_,?_,((i + 1)),rfl,rfl,rfl,rfl,h16_1,h16_2,rfl,(by omega),(Ef p16_1 (by simp [Vw,ha24,b7,b12,b20,b30,b33])),trivial⟩
  omega
 have q20:=of_decide_eq_false b20
 refine Bx ?_
 apply k14
 refine w_q rfl rfl fun K34 k34=>?_
 refine l_A (iV (0)) rfl rfl ?_
 apply Ac
 apply k34
 refine Aj (Arw l2) ?_
 refine Aq ?_
 refine hret _ _ _ ?_
 refine ⟨rfl,rfl,Eq.trans (b:=(iV (0))) rfl ?_⟩
 rw [Hw,Gt q7,if_neg (by omega),Fb fun j hj=>p16_1 j (by omega)]
end Go.Proofs.YtoefdnbaklajeaaDoor

namespace Go.Proofs.YtoefdnbaklajeaaDoor
open Go
def nodeAt (l:Lab) (t:List FNode) (i:Nat):Int:=match t[i]? with
  | none=>0
  | some x=>if inR x.test 0 ((l.tests.length:Int) - 1) then (if ((x.found != -1) && !inR x.found ((i + 1:Nat):Int) ((t.length:Int) - 1)) || ((x.not != -1) && !inR x.not ((i + 1:Nat):Int) ((t.length:Int) - 1)) then 7 else 0) else 6
def treeF (l:Lab) (t:List FNode):Int:=Hq t.length (nodeAt l t)
end Go.Proofs.YtoefdnbaklajeaaDoor

namespace Go.Proofs.YtoefdnbaklajeaaDoor
open Go
set_option maxRecDepth 100000 in
theorem c_CheckTree {mn:Bool} {X:Frame→List Frame→Ro→Own→Cy→Prop} {ρ:Ro} {σ:Own} {l:Lab} {vl vt:Value} {t:List FNode} (rl:Val ρ vl l) (rt:Val ρ vt t):CallsH (CX mn X) 57 #[vl,vt] ρ σ (fun w ρ' σ'=>ρ' = ρ∧σ' = σ∧w = (iV (treeF l t))):=by
 refine Bh (n:=65) (args:=[vl,vt]) [4] Tryd.func57 rfl rfl rfl rfl fun Q hret hnor=>?_
 refine w_q rfl rfl fun K1 k1=>?_
 refine Ae rfl (Eb (v:=vl) rfl fun k2=>?_)
 refine Bb (a:=l) rl fun ρ2 l2 r2=>?_
 replace rl:=Asa l2 rl
 replace rt:=Asa l2 rt
 refine l_A (iV (0)) rfl rfl ?_
 apply Ac
 apply k1
 refine Ai fun K3 k3=>?_
 refine w_q rfl rfl fun K4 k4=>?_
 refine l_A (iV (0)) rfl rfl ?_
 apply Ac
 apply k4
 refine Ao ?_
 refine Cc (fun mm ee dd ρ' σ'=>∃ (i:Nat),(t.length - i) = mm∧[] = dd∧ρ2 = ρ'∧σ = σ'∧ee 1 = vt∧ee 2 = (.pointer (some ⟨k2,0,none⟩))∧ee 5 = (iV ((i:Int)))∧(i ≤ t.length)∧(∀ j,j < i→nodeAt l t j = 0)∧True) (m:=_) ⟨0,rfl,rfl,rfl,rfl,rfl,rfl,rfl,(Nat.zero_le _),(fun j h=>absurd h (Nat.not_lt_zero _)),trivial⟩ ?_
 rintro m5 e5 _ _ _ ⟨i,rfl,rfl,rfl,rfl,h5_1,h5_2,h5_5,p5_0,p5_1,_⟩
 refine Ai fun K6 k6=>?_
 refine w_q rfl rfl fun K7 k7=>?_
 refine Aa rfl (Ah (v:=(iV ((i:Int)))) h5_5) ?_
 refine Aa rfl (Ah (v:=vt) h5_1) ?_
 have g8:=Val.len rt
 refine Aa rfl (Ce (el:=94) Tryd.underlying49 rfl rt) ?_
 refine Aa rfl (Da (p:=(i:Int)) (q:=((t.length:Nat):Int)) rfl rfl) ?_
 apply Ac
 apply k7
 refine As (t:=decide ((i:Int) < ((t.length:Nat):Int))) rfl (fun b9=>?_) (fun b9=>?_)
 ·have q9:=of_decide_eq_true b9
  refine Al ?_
  apply k6
  refine Ai fun K10 k10=>?_
  refine Ao ?_
  refine Ai fun K11 k11=>?_
  refine Ai fun K12 k12=>?_
  refine Dc [0,1,2,3,4,5,6,7,8,9,10] (by kernel_rfl) rfl rfl ?_
  refine Be (i:=0) [o1,o0,o0,o0,o0,o0,o0,o0,o0,o0,o0] rfl (by kernel_rfl) rfl Ary rfl (Ah (v:=vt) h5_1) ?_
  refine Be (i:=1) [o1,o1,o0,o0,o0,o0,o0,o0,o0,o0,o0] rfl (by kernel_rfl) rfl Ary rfl (Ah (v:=(iV ((i:Int)))) h5_5) ?_
  obtain ⟨a14,ha14⟩:=Ed (xs:=t) (i:=i) (by omega)
  refine Cd (i:=2) [o1,o1,o1,o0,o0,o0,o0,o0,o0,o0,o0] rfl (by kernel_rfl) rfl Ary rfl (Ci i Tryd.underlying49 ty94 rfl rt (q:=(i:Int)) rfl rfl ha14) fun v13 r13=>?_
  refine Cd (i:=3) [o1,o1,o1,o1,o0,o0,o0,o0,o0,o0,o0] rfl (by kernel_rfl) rfl Ary rfl (Ay FNode.f_test Tryd.underlying94 rfl rfl ty3 (by decide) rfl r13) fun v15 r15=>?_
  have ⟨g16a,g16b⟩:=At.rng r15
  refine Be (i:=4) [o1,o1,o1,o1,o1,o0,o0,o0,o0,o0,o0] rfl (by kernel_rfl) rfl Ary rfl (Bc ty3 rfl r15) ?_
  refine Hl (i:=5) Apb rfl (by kernel_rfl) rfl Ary rfl (Ay Lab.f_tests Tryd.underlying40 rfl rfl Vd (by decide) h5_2 r2) fun v17 r17=>?_
  refine Hl (i:=6) zZ2 rfl (by kernel_rfl) rfl Ary rfl (Ax Vd rfl r17) fun v18 r18=>?_
  have g19:=Val.len r18
  refine Bg (i:=7) zZ3 rfl (by kernel_rfl) rfl Ary rfl (Ce (el:=108) Tryd.underlying38 rfl r18) ?_
  refine Bg (i:=8) zZ4 rfl (by kernel_rfl) rfl Ary rfl (Oq (p:=((l.tests.length:Nat):Int)) (q:=1) rfl rfl (z:=(((l.tests.length:Nat):Int) - 1)) (Bo (by first | rfl | omega | (push_cast; rfl)) (by omega) (by omega))) ?_
  refine Dj (i:=9) zZ5 rfl (by kernel_rfl) rfl rfl (Bn (vs:=[(iV (a14.test)),(iV (0)),(iV ((((l.tests.length:Nat):Int) - 1)))]) (v:=(.bool (inR a14.test 0 ((((l.tests.length:Nat):Int) - 1))))) (c_In) Tryd.func79 rfl rfl ⟨rfl,rfl,rfl,trivial⟩ ⟨Ary,?_⟩)
  refine Bg (i:=10) zZ6 rfl (by kernel_rfl) rfl Ary rfl (Ix (k:=inR a14.test 0 ((((l.tests.length:Nat):Int) - 1))) rfl) ?_
  refine Ec rfl ?_
  apply k12
  refine As (t:=!(inR a14.test 0 ((((l.tests.length:Nat):Int) - 1)))) rfl (fun b20=>?_) (fun b20=>?_)
  ·have b21:=not_eq_t b20
   have q21:=Ui.1 b21
   refine w_q rfl rfl fun K22 k22=>?_
   refine l_A (iV (6)) rfl rfl ?_
   apply Ac
   apply k22
   refine Aj (Arw l2) ?_
   refine Aq ?_
   refine hret _ _ _ ?_
   refine ⟨rfl,rfl,Eq.trans (b:=(iV (6))) rfl ?_⟩
   have hf:nodeAt l t i = 6:=by simp only [nodeAt,ha14,b9,b20,b21,Bool.true_and,Bool.false_and,Bool.and_true,Bool.and_false,Bool.true_or,Bool.false_or,Bool.or_true,Bool.or_false,Bool.not_true,Bool.not_false,if_true,Bool.false_eq_true,if_false]
   rw [treeF,Db p5_1 (by omega) hf (by omega)]
  have b23:=not_eq_f b20
  have q23:=Ge.1 b23
  refine Al ?_
  apply k11
  refine w_q rfl rfl fun K24 k24=>?_
  refine Aa rfl (Ah (v:=vt) h5_1) ?_
  refine Aa rfl (Ah (v:=(iV ((i:Int)))) h5_5) ?_
  refine Ak rfl (Ci i Tryd.underlying49 ty94 rfl rt (q:=(i:Int)) rfl rfl ha14) fun v25 r25=>?_
  refine Ak rfl (Ay FNode.f_found Tryd.underlying94 rfl rfl ty3 (by decide) rfl r25) fun v26 r26=>?_
  have ⟨g27a,g27b⟩:=At.rng r26
  refine Aa rfl (Bc ty3 rfl r26) ?_
  refine Aa rfl (Dg (p:=a14.found) (q:=(-1)) rfl rfl) ?_
  refine l_M (.bool (a14.found != (-1))) rfl rfl ?_
  refine Cn (a14.found != (-1)) (fun b28=>?_) (fun b28=>?_)
  ·have q28:=Mb b28
   refine Aa (Ar rfl rfl rfl b28) (Ah (v:=vt) h5_1) ?_
   refine Aa (Ar rfl rfl rfl b28) (Ah (v:=(iV ((i:Int)))) h5_5) ?_
   refine Ak (Ar rfl rfl rfl b28) (Ci i Tryd.underlying49 ty94 rfl rt (q:=(i:Int)) rfl rfl ha14) fun v29 r29=>?_
   refine Ak (Ar rfl rfl rfl b28) (Ay FNode.f_found Tryd.underlying94 rfl rfl ty3 (by decide) rfl r29) fun v30 r30=>?_
   have ⟨g31a,g31b⟩:=At.rng r30
   refine Aa (Ar rfl rfl rfl b28) (Bc ty3 rfl r30) ?_
   refine Aa (Ar rfl rfl rfl b28) (Ah (v:=(iV ((i:Int)))) h5_5) ?_
   refine Aa (Ar rfl rfl rfl b28) (Br (p:=(i:Int)) (q:=1) rfl rfl (z:=(((i + 1):Nat):Int)) (Bo (by first | rfl | omega | (push_cast; rfl)) (by omega) (by omega))) ?_
   refine Aa (Ar rfl rfl rfl b28) (Ah (v:=vt) h5_1) ?_
   have g32:=Val.len rt
   refine Aa (Ar rfl rfl rfl b28) (Ce (el:=94) Tryd.underlying49 rfl rt) ?_
   refine Aa (Ar rfl rfl rfl b28) (Oq (p:=((t.length:Nat):Int)) (q:=1) rfl rfl (z:=(((t.length:Nat):Int) - 1)) (Bo (by first | rfl | omega | (push_cast; rfl)) (by omega) (by omega))) ?_
   refine Ae (Ar rfl rfl rfl b28) (Bn (vs:=[(iV (a14.found)),(iV ((((i + 1):Nat):Int))),(iV ((((t.length:Nat):Int) - 1)))]) (v:=(.bool (inR a14.found ((((i + 1):Nat):Int)) ((((t.length:Nat):Int) - 1))))) (c_In) Tryd.func79 rfl rfl ⟨rfl,rfl,rfl,trivial⟩ ?_)
   refine Aa (Ar rfl rfl rfl b28) (Ix (k:=inR a14.found ((((i + 1):Nat):Int)) ((((t.length:Nat):Int) - 1))) rfl) ?_
   refine Aa rfl (Bt rfl b28 (v:=(.bool (!(inR a14.found ((((i + 1):Nat):Int)) ((((t.length:Nat):Int) - 1)))))) rfl) ?_
   refine l_M (.bool (!(inR a14.found ((((i + 1):Nat):Int)) ((((t.length:Nat):Int) - 1))))) rfl rfl ?_
   refine Cn (!(inR a14.found ((((i + 1):Nat):Int)) ((((t.length:Nat):Int) - 1)))) (fun b33=>?_) (fun b33=>?_)
   ·have b34:=not_eq_t b33
    have q34:=Ui.1 b34
    refine Ap (Bl rfl rfl rfl b33) ?_
    refine Ap (Bl rfl rfl rfl b33) ?_
    refine Ap (Bl rfl rfl rfl b33) ?_
    refine Ap (Bl rfl rfl rfl b33) ?_
    refine Ap (Bl rfl rfl rfl b33) ?_
    refine Ap (Bl rfl rfl rfl b33) ?_
    refine Ap (Bl rfl rfl rfl b33) ?_
    refine Ap (Jf rfl rfl rfl) ?_
    refine Ap (Jf rfl rfl rfl) ?_
    refine Ap (Jf rfl rfl rfl) ?_
    refine Ap (Jf rfl rfl rfl) ?_
    refine Ap (Jf rfl rfl rfl) ?_
    refine Ap (Jf rfl rfl rfl) ?_
    refine Ap (Jf rfl rfl rfl) ?_
    refine Ap (Jf rfl rfl rfl) ?_
    refine Ap (Jf rfl rfl rfl) ?_
    refine Ap (Jf rfl rfl rfl) ?_
    refine Ap (Jf rfl rfl rfl) ?_
    refine Ap (Jf rfl rfl rfl) ?_
    refine Ap (Bl rfl rfl rfl b33) ?_
    refine Aa rfl (Bt rfl b33 (v:=(.bool (true))) rfl) ?_
    apply Ac
    apply k24
    refine Co rfl rfl ?_
    refine w_q rfl rfl fun K35 k35=>?_
    refine l_A (iV (7)) rfl rfl ?_
    apply Ac
    apply k35
    refine Aj (Arw l2) ?_
    refine Aq ?_
    refine hret _ _ _ ?_
    refine ⟨rfl,rfl,Eq.trans (b:=(iV (7))) rfl ?_⟩
    have hf:nodeAt l t i = 7:=by simp only [nodeAt,ha14,b9,b20,b23,b28,b33,b34,Bool.true_and,Bool.false_and,Bool.and_true,Bool.and_false,Bool.true_or,Bool.false_or,Bool.or_true,Bool.or_false,Bool.not_true,Bool.not_false,if_true,Bool.false_eq_true,if_false]
    rw [treeF,Db p5_1 (by omega) hf (by omega)]
   have b36:=not_eq_f b33
   have q36:=Ge.1 b36
   refine Aa (Ar rfl rfl rfl b33) (Ah (v:=vt) h5_1) ?_
   refine Aa (Ar rfl rfl rfl b33) (Ah (v:=(iV ((i:Int)))) h5_5) ?_
   refine Ak (Ar rfl rfl rfl b33) (Ci i Tryd.underlying49 ty94 rfl rt (q:=(i:Int)) rfl rfl ha14) fun v37 r37=>?_
   refine Ak (Ar rfl rfl rfl b33) (Ay FNode.f_not Tryd.underlying94 rfl rfl ty3 (by decide) rfl r37) fun v38 r38=>?_
   have ⟨g39a,g39b⟩:=At.rng r38
   refine Aa (Ar rfl rfl rfl b33) (Bc ty3 rfl r38) ?_
   refine Aa (Ar rfl rfl rfl b33) (Dg (p:=a14.not) (q:=(-1)) rfl rfl) ?_
   refine l_M (.bool (a14.not != (-1))) (Ar rfl rfl rfl b33) rfl ?_
   refine Cn (a14.not != (-1)) (fun b40=>?_) (fun b40=>?_)
   ·have q40:=Mb b40
    refine Aa (Ar rfl rfl rfl b40) (Ah (v:=vt) h5_1) ?_
    refine Aa (Ar rfl rfl rfl b40) (Ah (v:=(iV ((i:Int)))) h5_5) ?_
    refine Ak (Ar rfl rfl rfl b40) (Ci i Tryd.underlying49 ty94 rfl rt (q:=(i:Int)) rfl rfl ha14) fun v41 r41=>?_
    refine Ak (Ar rfl rfl rfl b40) (Ay FNode.f_not Tryd.underlying94 rfl rfl ty3 (by decide) rfl r41) fun v42 r42=>?_
    have ⟨g43a,g43b⟩:=At.rng r42
    refine Aa (Ar rfl rfl rfl b40) (Bc ty3 rfl r42) ?_
    refine Aa (Ar rfl rfl rfl b40) (Ah (v:=(iV ((i:Int)))) h5_5) ?_
    refine Aa (Ar rfl rfl rfl b40) (Br (p:=(i:Int)) (q:=1) rfl rfl (z:=(((i + 1):Nat):Int)) (Bo (by first | rfl | omega | (push_cast; rfl)) (by omega) (by omega))) ?_
    refine Aa (Ar rfl rfl rfl b40) (Ah (v:=vt) h5_1) ?_
    have g44:=Val.len rt
    refine Aa (Ar rfl rfl rfl b40) (Ce (el:=94) Tryd.underlying49 rfl rt) ?_
    refine Aa (Ar rfl rfl rfl b40) (Oq (p:=((t.length:Nat):Int)) (q:=1) rfl rfl (z:=(((t.length:Nat):Int) - 1)) (Bo (by first | rfl | omega | (push_cast; rfl)) (by omega) (by omega))) ?_
    refine Ae (Ar rfl rfl rfl b40) (Bn (vs:=[(iV (a14.not)),(iV ((((i + 1):Nat):Int))),(iV ((((t.length:Nat):Int) - 1)))]) (v:=(.bool (inR a14.not ((((i + 1):Nat):Int)) ((((t.length:Nat):Int) - 1))))) (c_In) Tryd.func79 rfl rfl ⟨rfl,rfl,rfl,trivial⟩ ?_)
    refine Aa (Ar rfl rfl rfl b40) (Ix (k:=inR a14.not ((((i + 1):Nat):Int)) ((((t.length:Nat):Int) - 1))) rfl) ?_
    refine Aa (Ar rfl rfl rfl b33) (Bt rfl b40 (v:=(.bool (!(inR a14.not ((((i + 1):Nat):Int)) ((((t.length:Nat):Int) - 1)))))) rfl) ?_
    refine Aa rfl (Bm rfl b33 (v:=(.bool (!(inR a14.not ((((i + 1):Nat):Int)) ((((t.length:Nat):Int) - 1)))))) rfl) ?_
    apply Ac
    apply k24
    refine As (t:=!(inR a14.not ((((i + 1):Nat):Int)) ((((t.length:Nat):Int) - 1)))) rfl (fun b45=>?_) (fun b45=>?_)
    ·have b46:=not_eq_t b45
     have q46:=Ui.1 b46
     refine w_q rfl rfl fun K47 k47=>?_
     refine l_A (iV (7)) rfl rfl ?_
     apply Ac
     apply k47
     refine Aj (Arw l2) ?_
     refine Aq ?_
     refine hret _ _ _ ?_
     refine ⟨rfl,rfl,Eq.trans (b:=(iV (7))) rfl ?_⟩
     have hf:nodeAt l t i = 7:=by simp only [nodeAt,ha14,b9,b20,b23,b28,b33,b36,b40,b45,b46,Bool.true_and,Bool.false_and,Bool.and_true,Bool.and_false,Bool.true_or,Bool.false_or,Bool.or_true,Bool.or_false,Bool.not_true,Bool.not_false,if_true,Bool.false_eq_true,if_false]
     rw [treeF,Db p5_1 (by omega) hf (by omega)]
    have b48:=not_eq_f b45
    have q48:=Ge.1 b48
    refine Al ?_
    apply k10
    refine Ag rfl rfl ?_
    refine Aa rfl (Ah (v:=(iV ((i:Int)))) h5_5) ?_
    refine Aa rfl (Br (p:=(i:Int)) (q:=1) rfl rfl (z:=(((i + 1):Nat):Int)) (Bo (by first | rfl | omega | (push_cast; rfl)) (by omega) (by omega))) ?_
    refine l_A (iV ((((i + 1):Nat):Int))) rfl rfl ?_
    apply Ac
    refine ⟨_,?_,((i + 1)),rfl,rfl,rfl,rfl,h5_1,h5_2,rfl,(by omega),(Ef p5_1 (by simp only [nodeAt,ha14,b9,b20,b23,b28,b33,b36,b40,b45,b48,Bool.true_and,Bool.false_and,Bool.and_true,Bool.and_false,Bool.true_or,Bool.false_or,Bool.or_true,Bool.or_false,Bool.not_true,Bool.not_false,if_true,Bool.false_eq_true,if_false])),trivial⟩
    omega
   have q40:=Jh b40
   refine Ap (Bl rfl rfl rfl b40) ?_
   refine Ap (Bl rfl rfl rfl b40) ?_
   refine Ap (Bl rfl rfl rfl b40) ?_
   refine Ap (Bl rfl rfl rfl b40) ?_
   refine Ap (Bl rfl rfl rfl b40) ?_
   refine Ap (Bl rfl rfl rfl b40) ?_
   refine Ap (Bl rfl rfl rfl b40) ?_
   refine Ap (Bl rfl rfl rfl b40) ?_
   refine Ap (Bl rfl rfl rfl b40) ?_
   refine Ap (Bl rfl rfl rfl b40) ?_
   refine Ap (Bl rfl rfl rfl b40) ?_
   refine Ap (Bl rfl rfl rfl b40) ?_
   refine Aa (Ar rfl rfl rfl b33) (Bm rfl b40 (v:=(.bool (false))) rfl) ?_
   refine Aa rfl (Bm rfl b33 (v:=(.bool (false))) rfl) ?_
   apply Ac
   apply k24
   refine Cg rfl rfl ?_
   refine Al ?_
   apply k10
   refine Ag rfl rfl ?_
   refine Aa rfl (Ah (v:=(iV ((i:Int)))) h5_5) ?_
   refine Aa rfl (Br (p:=(i:Int)) (q:=1) rfl rfl (z:=(((i + 1):Nat):Int)) (Bo (by first | rfl | omega | (push_cast; rfl)) (by omega) (by omega))) ?_
   refine l_A (iV ((((i + 1):Nat):Int))) rfl rfl ?_
   apply Ac
   refine ⟨_,?_,((i + 1)),rfl,rfl,rfl,rfl,h5_1,h5_2,rfl,(by omega),(Ef p5_1 (by simp only [nodeAt,ha14,b9,b20,b23,b28,b33,b36,b40,Bool.true_and,Bool.false_and,Bool.and_true,Bool.and_false,Bool.true_or,Bool.false_or,Bool.or_true,Bool.or_false,Bool.not_true,Bool.not_false,if_true,Bool.false_eq_true,if_false])),trivial⟩
   omega
  have q28:=Jh b28
  refine Ap (Bl rfl rfl rfl b28) ?_
  refine Ap (Bl rfl rfl rfl b28) ?_
  refine Ap (Bl rfl rfl rfl b28) ?_
  refine Ap (Bl rfl rfl rfl b28) ?_
  refine Ap (Bl rfl rfl rfl b28) ?_
  refine Ap (Bl rfl rfl rfl b28) ?_
  refine Ap (Bl rfl rfl rfl b28) ?_
  refine Ap (Bl rfl rfl rfl b28) ?_
  refine Ap (Bl rfl rfl rfl b28) ?_
  refine Ap (Bl rfl rfl rfl b28) ?_
  refine Ap (Bl rfl rfl rfl b28) ?_
  refine Ap (Bl rfl rfl rfl b28) ?_
  refine Aa rfl (Bm rfl b28 (v:=(.bool (false))) rfl) ?_
  refine l_M (.bool (false)) rfl rfl ?_
  refine Aa (Ar rfl rfl rfl rfl) (Ah (v:=vt) h5_1) ?_
  refine Aa (Ar rfl rfl rfl rfl) (Ah (v:=(iV ((i:Int)))) h5_5) ?_
  refine Ak (Ar rfl rfl rfl rfl) (Ci i Tryd.underlying49 ty94 rfl rt (q:=(i:Int)) rfl rfl ha14) fun v49 r49=>?_
  refine Ak (Ar rfl rfl rfl rfl) (Ay FNode.f_not Tryd.underlying94 rfl rfl ty3 (by decide) rfl r49) fun v50 r50=>?_
  have ⟨g51a,g51b⟩:=At.rng r50
  refine Aa (Ar rfl rfl rfl rfl) (Bc ty3 rfl r50) ?_
  refine Aa (Ar rfl rfl rfl rfl) (Dg (p:=a14.not) (q:=(-1)) rfl rfl) ?_
  refine l_M (.bool (a14.not != (-1))) (Ar rfl rfl rfl rfl) rfl ?_
  refine Cn (a14.not != (-1)) (fun b52=>?_) (fun b52=>?_)
  ·have q52:=Mb b52
   refine Aa (Ar rfl rfl rfl b52) (Ah (v:=vt) h5_1) ?_
   refine Aa (Ar rfl rfl rfl b52) (Ah (v:=(iV ((i:Int)))) h5_5) ?_
   refine Ak (Ar rfl rfl rfl b52) (Ci i Tryd.underlying49 ty94 rfl rt (q:=(i:Int)) rfl rfl ha14) fun v53 r53=>?_
   refine Ak (Ar rfl rfl rfl b52) (Ay FNode.f_not Tryd.underlying94 rfl rfl ty3 (by decide) rfl r53) fun v54 r54=>?_
   have ⟨g55a,g55b⟩:=At.rng r54
   refine Aa (Ar rfl rfl rfl b52) (Bc ty3 rfl r54) ?_
   refine Aa (Ar rfl rfl rfl b52) (Ah (v:=(iV ((i:Int)))) h5_5) ?_
   refine Aa (Ar rfl rfl rfl b52) (Br (p:=(i:Int)) (q:=1) rfl rfl (z:=(((i + 1):Nat):Int)) (Bo (by first | rfl | omega | (push_cast; rfl)) (by omega) (by omega))) ?_
   refine Aa (Ar rfl rfl rfl b52) (Ah (v:=vt) h5_1) ?_
   have g56:=Val.len rt
   refine Aa (Ar rfl rfl rfl b52) (Ce (el:=94) Tryd.underlying49 rfl rt) ?_
   refine Aa (Ar rfl rfl rfl b52) (Oq (p:=((t.length:Nat):Int)) (q:=1) rfl rfl (z:=(((t.length:Nat):Int) - 1)) (Bo (by first | rfl | omega | (push_cast; rfl)) (by omega) (by omega))) ?_
   refine Ae (Ar rfl rfl rfl b52) (Bn (vs:=[(iV (a14.not)),(iV ((((i + 1):Nat):Int))),(iV ((((t.length:Nat):Int) - 1)))]) (v:=(.bool (inR a14.not ((((i + 1):Nat):Int)) ((((t.length:Nat):Int) - 1))))) (c_In) Tryd.func79 rfl rfl ⟨rfl,rfl,rfl,trivial⟩ ?_)
   refine Aa (Ar rfl rfl rfl b52) (Ix (k:=inR a14.not ((((i + 1):Nat):Int)) ((((t.length:Nat):Int) - 1))) rfl) ?_
   refine Aa (Ar rfl rfl rfl rfl) (Bt rfl b52 (v:=(.bool (!(inR a14.not ((((i + 1):Nat):Int)) ((((t.length:Nat):Int) - 1)))))) rfl) ?_
   refine Aa rfl (Bm rfl rfl (v:=(.bool (!(inR a14.not ((((i + 1):Nat):Int)) ((((t.length:Nat):Int) - 1)))))) rfl) ?_
   apply Ac
   apply k24
   refine As (t:=!(inR a14.not ((((i + 1):Nat):Int)) ((((t.length:Nat):Int) - 1)))) rfl (fun b57=>?_) (fun b57=>?_)
   ·have b58:=not_eq_t b57
    have q58:=Ui.1 b58
    refine w_q rfl rfl fun K59 k59=>?_
    refine l_A (iV (7)) rfl rfl ?_
    apply Ac
    apply k59
    refine Aj (Arw l2) ?_
    refine Aq ?_
    refine hret _ _ _ ?_
    refine ⟨rfl,rfl,Eq.trans (b:=(iV (7))) rfl ?_⟩
    have hf:nodeAt l t i = 7:=by simp only [nodeAt,ha14,b9,b20,b23,b28,b52,b57,b58,Bool.true_and,Bool.false_and,Bool.and_true,Bool.and_false,Bool.true_or,Bool.false_or,Bool.or_true,Bool.or_false,Bool.not_true,Bool.not_false,if_true,Bool.false_eq_true,if_false]
    rw [treeF,Db p5_1 (by omega) hf (by omega)]
   have b60:=not_eq_f b57
   have q60:=Ge.1 b60
   refine Al ?_
   apply k10
   refine Ag rfl rfl ?_
   refine Aa rfl (Ah (v:=(iV ((i:Int)))) h5_5) ?_
   refine Aa rfl (Br (p:=(i:Int)) (q:=1) rfl rfl (z:=(((i + 1):Nat):Int)) (Bo (by first | rfl | omega | (push_cast; rfl)) (by omega) (by omega))) ?_
   refine l_A (iV ((((i + 1):Nat):Int))) rfl rfl ?_
   apply Ac
   refine ⟨_,?_,((i + 1)),rfl,rfl,rfl,rfl,h5_1,h5_2,rfl,(by omega),(Ef p5_1 (by simp only [nodeAt,ha14,b9,b20,b23,b28,b52,b57,b60,Bool.true_and,Bool.false_and,Bool.and_true,Bool.and_false,Bool.true_or,Bool.false_or,Bool.or_true,Bool.or_false,Bool.not_true,Bool.not_false,if_true,Bool.false_eq_true,if_false])),trivial⟩
   omega
  have q52:=Jh b52
  refine Ap (Bl rfl rfl rfl b52) ?_
  refine Ap (Bl rfl rfl rfl b52) ?_
  refine Ap (Bl rfl rfl rfl b52) ?_
  refine Ap (Bl rfl rfl rfl b52) ?_
  refine Ap (Bl rfl rfl rfl b52) ?_
  refine Ap (Bl rfl rfl rfl b52) ?_
  refine Ap (Bl rfl rfl rfl b52) ?_
  refine Ap (Bl rfl rfl rfl b52) ?_
  refine Ap (Bl rfl rfl rfl b52) ?_
  refine Ap (Bl rfl rfl rfl b52) ?_
  refine Ap (Bl rfl rfl rfl b52) ?_
  refine Ap (Bl rfl rfl rfl b52) ?_
  refine Aa (Ar rfl rfl rfl rfl) (Bm rfl b52 (v:=(.bool (false))) rfl) ?_
  refine Aa rfl (Bm rfl rfl (v:=(.bool (false))) rfl) ?_
  apply Ac
  apply k24
  refine Cg rfl rfl ?_
  refine Al ?_
  apply k10
  refine Ag rfl rfl ?_
  refine Aa rfl (Ah (v:=(iV ((i:Int)))) h5_5) ?_
  refine Aa rfl (Br (p:=(i:Int)) (q:=1) rfl rfl (z:=(((i + 1):Nat):Int)) (Bo (by first | rfl | omega | (push_cast; rfl)) (by omega) (by omega))) ?_
  refine l_A (iV ((((i + 1):Nat):Int))) rfl rfl ?_
  apply Ac
  refine ⟨_,?_,((i + 1)),rfl,rfl,rfl,rfl,h5_1,h5_2,rfl,(by omega),(Ef p5_1 (by simp only [nodeAt,ha14,b9,b20,b23,b28,b52,Bool.true_and,Bool.false_and,Bool.and_true,Bool.and_false,Bool.true_or,Bool.false_or,Bool.or_true,Bool.or_false,Bool.not_true,Bool.not_false,if_true,Bool.false_eq_true,if_false])),trivial⟩
  omega
 have q9:=of_decide_eq_false b9
 refine Bx ?_
 apply k3
 refine w_q rfl rfl fun K61 k61=>?_
 refine l_A (iV (0)) rfl rfl ?_
 apply Ac
 apply k61
 refine Aj (Arw l2) ?_
 refine Aq ?_
 refine hret _ _ _ ?_
 refine ⟨rfl,rfl,Eq.trans (b:=(iV (0))) rfl ?_⟩
 rw [treeF,Fb fun j hj=>p5_1 j (by omega)]
set_option maxRecDepth 100000 in
theorem c_Settled {mn:Bool} {X:Frame→List Frame→Ro→Own→Cy→Prop} {ρ:Ro} {σ:Own} {l:List Int} {vl:Value} (rl:Val ρ vl l):CallsH (CX mn X) 56 #[vl] ρ σ (fun w ρ' σ'=>ρ' = ρ∧σ' = σ∧w = (.bool (Dz l))):=by
 refine Bh (n:=20) (args:=[vl]) [2] Tryd.func56 rfl rfl rfl rfl fun Q hret hnor=>?_
 refine w_q rfl rfl fun K1 k1=>?_
 refine l_A (.bool (false)) rfl rfl ?_
 apply Ac
 apply k1
 refine Ai fun K2 k2=>?_
 refine w_q rfl rfl fun K3 k3=>?_
 refine l_A (iV (0)) rfl rfl ?_
 apply Ac
 apply k3
 refine Ao ?_
 refine Cc (fun mm ee dd ρ' σ'=>∃ (i:Nat),(l.length - i) = mm∧[] = dd∧ρ = ρ'∧σ = σ'∧ee 0 = vl∧ee 3 = (iV ((i:Int)))∧(i ≤ l.length)∧(∀ j,j < i→Ig l j = false)∧True) (m:=_) ⟨0,rfl,rfl,rfl,rfl,rfl,rfl,(Nat.zero_le _),(fun j h=>absurd h (Nat.not_lt_zero _)),trivial⟩ ?_
 rintro m4 e4 _ _ _ ⟨i,rfl,rfl,rfl,rfl,h4_0,h4_3,p4_0,p4_1,_⟩
 refine Ai fun K5 k5=>?_
 refine w_q rfl rfl fun K6 k6=>?_
 refine Aa rfl (Ah (v:=(iV ((i:Int)))) h4_3) ?_
 refine Aa rfl (Ah (v:=vl) h4_0) ?_
 have g7:=Val.len rl
 refine Aa rfl (Ce (el:=3) Tryd.underlying30 rfl rl) ?_
 refine Aa rfl (Da (p:=(i:Int)) (q:=((l.length:Nat):Int)) rfl rfl) ?_
 apply Ac
 apply k6
 refine As (t:=decide ((i:Int) < ((l.length:Nat):Int))) rfl (fun b8=>?_) (fun b8=>?_)
 ·have q8:=of_decide_eq_true b8
  refine Al ?_
  apply k5
  refine Ai fun K9 k9=>?_
  refine Ao ?_
  refine Ai fun K10 k10=>?_
  refine Dc [0,1,2,3,4,5,6,7,8,9] (by kernel_rfl) rfl rfl ?_
  refine Be (i:=0) zZ7 rfl (by kernel_rfl) rfl Ary rfl (Ah (v:=vl) h4_0) ?_
  refine Be (i:=1) zZ8 rfl (by kernel_rfl) rfl Ary rfl (Ah (v:=(iV ((i:Int)))) h4_3) ?_
  obtain ⟨a12,ha12⟩:=Ed (xs:=l) (i:=i) (by omega)
  refine Cd (i:=2) zZ9 rfl (by kernel_rfl) rfl Ary rfl (Ci i Tryd.underlying30 ty3 rfl rl (q:=(i:Int)) rfl rfl ha12) fun v11 r11=>?_
  have ⟨g13a,g13b⟩:=At.rng r11
  refine Be (i:=3) Aoz rfl (by kernel_rfl) rfl Ary rfl (Bc ty3 rfl r11) ?_
  refine Be (i:=4) Aol rfl (by kernel_rfl) rfl Ary rfl (Ek (p:=a12) (q:=0) rfl rfl) ?_
  refine Bg (i:=5) [o1,o1,o1,o1,o1,o1,o0,o0,o0,o0] rfl (by kernel_rfl) rfl Ary rfl (Ah (v:=vl) h4_0) ?_
  obtain ⟨a15,ha15⟩:=Ed (xs:=l) (i:=0) (by omega)
  refine Hl (i:=6) Ajy rfl (by kernel_rfl) rfl Ary rfl (Ci 0 Tryd.underlying30 ty3 rfl rl (q:=0) rfl rfl ha15) fun v14 r14=>?_
  have ⟨g16a,g16b⟩:=At.rng r14
  refine Bg (i:=7) Aho rfl (by kernel_rfl) rfl Ary rfl (Bc ty3 rfl r14) ?_
  refine Bg (i:=8) Aia rfl (by kernel_rfl) rfl Ary rfl (Ek (p:=a15) (q:=0) rfl rfl) ?_
  refine Bg (i:=9) Aiz rfl (by kernel_rfl) rfl Ary rfl (y_neqb Tryd.underlying4 (p:=a12 == 0) (q:=a15 == 0) rfl rfl) ?_
  refine Ec rfl ?_
  apply k10
  refine As (t:=(a12 == 0) != (a15 == 0)) rfl (fun b17=>?_) (fun b17=>?_)
  ·have q17:=Mb b17
   refine w_q rfl rfl fun K18 k18=>?_
   refine l_A (.bool (false)) rfl rfl ?_
   apply Ac
   apply k18
   refine Aq ?_
   refine hret _ _ _ ?_
   refine ⟨rfl,rfl,Eq.trans (b:=(.bool (false))) rfl ?_⟩
   rw [Aei (i:=i) (by omega) (by simp only [Ig,ha12,ha15]; exact b17)]
  have q17:=Jh b17
  refine Al ?_
  apply k9
  refine Ag rfl rfl ?_
  refine Aa rfl (Ah (v:=(iV ((i:Int)))) h4_3) ?_
  refine Aa rfl (Br (p:=(i:Int)) (q:=1) rfl rfl (z:=(((i + 1):Nat):Int)) (Bo (by first | rfl | omega | (push_cast; rfl)) (by omega) (by omega))) ?_
  refine l_A (iV ((((i + 1):Nat):Int))) rfl rfl ?_
  apply Ac
  refine ⟨_,?_,((i + 1)),rfl,rfl,rfl,rfl,h4_0,rfl,(by omega),(Ef p4_1 (by simp only [Ig,ha12,ha15]; exact b17)),trivial⟩
  omega
 have q8:=of_decide_eq_false b8
 refine Bx ?_
 apply k2
 refine w_q rfl rfl fun K19 k19=>?_
 refine l_A (.bool (true)) rfl rfl ?_
 apply Ac
 apply k19
 refine Aq ?_
 refine hret _ _ _ ?_
 refine ⟨rfl,rfl,Eq.trans (b:=(.bool (true))) rfl ?_⟩
 rw [Aep fun j hj=>p4_1 j (by omega)]
end Go.Proofs.YtoefdnbaklajeaaDoor

namespace Go.Proofs.YtoefdnbaklajeaaDoor
open Go
theorem pop8_all:(List.range 256).all (fun x=>De x == x % 2 + De (x / 2)) = true:=by decide +kernel
theorem pop8_step {x:Nat} (h:x < 256):De x = x % 2 + De (x / 2):=by
  have:=List.all_eq_true.1 pop8_all x (by simpa using h)
  simpa using this
theorem pop8_0:De 0 = 0:=by decide
theorem any_succ {p:Nat→Bool} {i:Nat}:(List.range (i + 1)).any p = ((List.range i).any p || p i):=by
  rw [List.range_succ,List.any_append]; simp
end Go.Proofs.YtoefdnbaklajeaaDoor

namespace Go.Proofs.YtoefdnbaklajeaaDoor
open Go
set_option maxRecDepth 100000 in
theorem c_size {mn:Bool} {X:Frame→List Frame→Ro→Own→Cy→Prop} {ρ:Ro} {σ:Own} {s:Nat} (hs:s < 256):CallsH (CX mn X) 99 #[(iV ((s:Int)))] ρ σ (fun w ρ' σ'=>ρ' = ρ∧σ' = σ∧w = (iV (((De s:Nat):Int)))):=by
 refine Bh (n:=13) (args:=[(iV ((s:Int)))]) [2] Tryd.func99 rfl rfl rfl rfl fun Q hret hnor=>?_
 refine w_q rfl rfl fun K1 k1=>?_
 refine l_A (iV (0)) rfl rfl ?_
 apply Ac
 apply k1
 refine w_q rfl rfl fun K2 k2=>?_
 refine l_A (iV (0)) rfl rfl ?_
 apply Ac
 apply k2
 refine Ai fun K3 k3=>?_
 refine Ao ?_
 refine Cc (fun mm ee dd ρ' σ'=>∃ (x:Nat) (c:Nat),(x) = mm∧[] = dd∧ρ = ρ'∧σ = σ'∧ee 0 = (iV ((x:Int)))∧ee 3 = (iV ((c:Int)))∧(c + x ≤ s)∧(c + De x = De s)∧True) (m:=_) ⟨s,0,rfl,rfl,rfl,rfl,rfl,rfl,(by omega),(Nat.zero_add _),trivial⟩ ?_
 rintro m4 e4 _ _ _ ⟨x,c,rfl,rfl,rfl,rfl,h4_0,h4_3,p4_0,p4_1,_⟩
 refine Ai fun K5 k5=>?_
 refine w_q rfl rfl fun K6 k6=>?_
 refine Aa rfl (Ah (v:=(iV ((x:Int)))) h4_0) ?_
 refine Aa rfl (Gk (p:=(x:Int)) (q:=0) rfl rfl) ?_
 apply Ac
 apply k6
 refine As (t:=decide ((x:Int) > 0)) rfl (fun b7=>?_) (fun b7=>?_)
 ·have q7:=of_decide_eq_true b7
  refine Al ?_
  apply k5
  refine Ao ?_
  refine w_q rfl rfl fun K8 k8=>?_
  refine Aa rfl (Ah (v:=(iV ((c:Int)))) h4_3) ?_
  refine Aa rfl (Ah (v:=(iV ((x:Int)))) h4_0) ?_
  refine Aa rfl (y_rem (p:=(x:Int)) (q:=2) rfl rfl (by omega) (z:=(((x % 2):Nat):Int)) rfl) ?_
  refine Aa rfl (Br (p:=(c:Int)) (q:=(((x % 2):Nat):Int)) rfl rfl (z:=(((c + (x % 2)):Nat):Int)) (Bo (by first | rfl | omega | (push_cast; rfl)) (by omega) (by omega))) ?_
  refine l_A (iV ((((c + (x % 2)):Nat):Int))) rfl rfl ?_
  apply Ac
  apply k8
  refine Ag rfl rfl ?_
  refine Aa rfl (Ah (v:=(iV ((x:Int)))) h4_0) ?_
  refine Aa rfl (y_quo (p:=(x:Int)) (q:=2) rfl rfl (by omega) (z:=(((x / 2):Nat):Int)) (Bo rfl (by omega) (by omega))) ?_
  refine l_A (iV ((((x / 2):Nat):Int))) rfl rfl ?_
  apply Ac
  refine ⟨_,?_,((x / 2)),((c + (x % 2))),rfl,rfl,rfl,rfl,rfl,rfl,(by omega),(by rw [← p4_1,pop8_step (x:=x) (by omega)]; omega),trivial⟩
  omega
 have q7:=of_decide_eq_false b7
 refine Bx ?_
 apply k3
 refine w_q rfl rfl fun K9 k9=>?_
 refine Aa rfl (Ah (v:=(iV ((c:Int)))) h4_3) ?_
 refine l_A (iV ((c:Int))) rfl rfl ?_
 apply Ac
 apply k9
 refine Aq ?_
 refine hret _ _ _ ?_
 refine ⟨rfl,rfl,Eq.trans (b:=(iV ((c:Int)))) rfl ?_⟩
 have hx:x = 0:=by omega
 subst hx
 rw [← p4_1,pop8_0,Nat.add_zero]
set_option maxRecDepth 100000 in
theorem c_Can {mn:Bool} {X:Frame→List Frame→Ro→Own→Cy→Prop} {ρ:Ro} {σ:Own} {t:FTest} {vt:Value} {s:Nat} {found:Bool} (rt:Val ρ vt t) (hs:s < 65536):CallsH (CX mn X) 107 #[vt,(iV ((s:Int))),(.bool (found))] ρ σ (fun w ρ' σ'=>ρ' = ρ∧σ' = σ∧w = (.bool (Afm t s found))):=by
 refine Bh (n:=46) (args:=[vt,(iV ((s:Int))),(.bool (found))]) [6] Tryd.func107 rfl rfl rfl rfl fun Q hret hnor=>?_
 refine w_q rfl rfl fun K1 k1=>?_
 refine Ae rfl (Eb (v:=vt) rfl fun k2=>?_)
 refine Bb (a:=t) rt fun ρ2 l2 r2=>?_
 replace rt:=Asa l2 rt
 refine l_A (.bool (false)) rfl rfl ?_
 apply Ac
 apply k1
 refine w_q rfl rfl fun K3 k3=>?_
 refine Ak rfl (Ay FTest.f_errs Tryd.underlying108 rfl rfl ty4 (by decide) rfl r2) fun v4 r4=>?_
 refine Aa rfl (Nw ty4 rfl r4) ?_
 refine l_A (.bool (t.errs)) rfl rfl ?_
 refine l_A (.bool (false)) rfl rfl ?_
 apply Ac
 apply k3
 refine Ai fun K6 k6=>?_
 refine w_q rfl rfl fun K7 k7=>?_
 refine l_A (iV (0)) rfl rfl ?_
 apply Ac
 apply k7
 refine Ao ?_
 refine Cc (fun mm ee dd ρ' σ'=>∃ (i:Nat) (so:Bool) (su:Bool),(t.sees.length - i) = mm∧[] = dd∧ρ2 = ρ'∧σ = σ'∧ee 1 = (iV ((s:Int)))∧ee 2 = (.bool (found))∧ee 3 = (.pointer (some ⟨k2,0,none⟩))∧ee 7 = (.bool (so))∧ee 8 = (.bool (su))∧ee 9 = (iV ((i:Int)))∧(i ≤ t.sees.length)∧(so = (t.errs || (List.range i).any (Ahz t s)))∧(su = (List.range i).any (Akd t s))∧True) (m:=_) ⟨0,t.errs,false,rfl,rfl,rfl,rfl,rfl,rfl,rfl,rfl,rfl,rfl,(Nat.zero_le _),(by simp),(by simp),trivial⟩ ?_
 rintro m8 e8 _ _ _ ⟨i,so,su,rfl,rfl,rfl,rfl,h8_1,h8_2,h8_3,h8_7,h8_8,h8_9,p8_0,p8_1,p8_2,_⟩
 refine Ai fun K9 k9=>?_
 refine w_q rfl rfl fun K10 k10=>?_
 refine Aa rfl (Ah (v:=(iV ((i:Int)))) h8_9) ?_
 refine Ak rfl (Ay FTest.f_sees Tryd.underlying108 rfl rfl Aex (by decide) h8_3 r2) fun v11 r11=>?_
 refine Ak rfl (Ax Aex rfl r11) fun v12 r12=>?_
 have g13:=Val.len r12
 refine Aa rfl (Ce (el:=53) Tryd.underlying46 rfl r12) ?_
 refine Aa rfl (Da (p:=(i:Int)) (q:=((t.sees.length:Nat):Int)) rfl rfl) ?_
 apply Ac
 apply k10
 refine As (t:=decide ((i:Int) < ((t.sees.length:Nat):Int))) rfl (fun b14=>?_) (fun b14=>?_)
 ·have q14:=of_decide_eq_true b14
  refine Al ?_
  apply k9
  refine Ai fun K15 k15=>?_
  refine Ao ?_
  refine w_q rfl rfl fun K16 k16=>?_
  refine Aa rfl (Ah (v:=(iV ((s:Int)))) h8_1) ?_
  refine Aa rfl (Ah (v:=(iV ((i:Int)))) h8_9) ?_
  refine Aa rfl (Jq (p:=s) (q:=i) rfl rfl rfl (by omega)) ?_
  refine Aa rfl (y_rem (p:=(((s >>> i):Nat):Int)) (q:=2) rfl rfl (by omega) (z:=((((s >>> i) % 2):Nat):Int)) rfl) ?_
  refine Aa rfl (Ek (p:=((((s >>> i) % 2):Nat):Int)) (q:=1) rfl rfl) ?_
  apply Ac
  apply k16
  refine As (t:=((((s >>> i) % 2):Nat):Int) == 1) rfl (fun b17=>?_) (fun b17=>?_)
  ·have q17:=Jo b17
   refine w_q rfl rfl fun K18 k18=>?_
   refine Aa rfl (Ah (v:=(.bool (so))) h8_7) ?_
   refine l_M (.bool (so)) rfl rfl ?_
   refine Cn (so) (fun b19=>?_) (fun b19=>?_)
   ·refine Ap (Bl rfl rfl rfl b19) ?_
    refine Ap (Bl rfl rfl rfl b19) ?_
    refine Ap (Bl rfl rfl rfl b19) ?_
    refine Ap (Bl rfl rfl rfl b19) ?_
    refine Ap (Bl rfl rfl rfl b19) ?_
    refine Ap (Bl rfl rfl rfl b19) ?_
    refine Aa rfl (Bt rfl b19 (v:=(.bool (true))) rfl) ?_
    refine l_A (.bool (true)) rfl rfl ?_
    apply Ac
    apply k18
    refine Ag rfl rfl ?_
    refine Aa rfl (Ah (v:=(.bool (su))) h8_8) ?_
    refine l_M (.bool (su)) rfl rfl ?_
    refine Cn (su) (fun b20=>?_) (fun b20=>?_)
    ·refine Ap (Bl rfl rfl rfl b20) ?_
     refine Ap (Bl rfl rfl rfl b20) ?_
     refine Ap (Bl rfl rfl rfl b20) ?_
     refine Ap (Bl rfl rfl rfl b20) ?_
     refine Ap (Bl rfl rfl rfl b20) ?_
     refine Ap (Bl rfl rfl rfl b20) ?_
     refine Aa rfl (Bt rfl b20 (v:=(.bool (true))) rfl) ?_
     refine l_A (.bool (true)) rfl rfl ?_
     apply Ac
     apply k15
     refine Ag rfl rfl ?_
     refine Aa rfl (Ah (v:=(iV ((i:Int)))) h8_9) ?_
     refine Aa rfl (Br (p:=(i:Int)) (q:=1) rfl rfl (z:=(((i + 1):Nat):Int)) (Bo (by first | rfl | omega | (push_cast; rfl)) (by omega) (by omega))) ?_
     refine l_A (iV ((((i + 1):Nat):Int))) rfl rfl ?_
     apply Ac
     refine ⟨_,?_,((i + 1)),(true),(true),rfl,rfl,rfl,rfl,h8_1,h8_2,h8_3,rfl,rfl,rfl,(by omega),(by rw [any_succ,← Bool.or_assoc,← p8_1]; simp [Ahz,Aql b17,b14,b17,b19,b20]),(by rw [any_succ,← p8_2]; simp [Akd,Aql b17,b14,b17,b19,b20]),trivial⟩
     omega
    refine Ak (Ar rfl rfl rfl b20) (Ay FTest.f_sees Tryd.underlying108 rfl rfl Aex (by decide) h8_3 r2) fun v21 r21=>?_
    refine Ak (Ar rfl rfl rfl b20) (Ax Aex rfl r21) fun v22 r22=>?_
    refine Aa (Ar rfl rfl rfl b20) (Ah (v:=(iV ((i:Int)))) h8_9) ?_
    obtain ⟨a24,ha24⟩:=Ed (xs:=t.sees) (i:=i) (by omega)
    refine Ak (Ar rfl rfl rfl b20) (Ci i Tryd.underlying46 Ov rfl r22 (q:=(i:Int)) rfl rfl ha24) fun v23 r23=>?_
    have ⟨g25a,g25b⟩:=At.rng r23
    refine Aa (Ar rfl rfl rfl b20) (Bc Ov rfl r23) ?_
    refine Aa (Ar rfl rfl rfl b20) (Ek (p:=a24) (q:=1) rfl rfl) ?_
    refine Aa rfl (Bm rfl b20 (v:=(.bool (a24 == 1))) rfl) ?_
    refine l_A (.bool (a24 == 1)) rfl rfl ?_
    apply Ac
    apply k15
    refine Ag rfl rfl ?_
    refine Aa rfl (Ah (v:=(iV ((i:Int)))) h8_9) ?_
    refine Aa rfl (Br (p:=(i:Int)) (q:=1) rfl rfl (z:=(((i + 1):Nat):Int)) (Bo (by first | rfl | omega | (push_cast; rfl)) (by omega) (by omega))) ?_
    refine l_A (iV ((((i + 1):Nat):Int))) rfl rfl ?_
    apply Ac
    refine ⟨_,?_,((i + 1)),(true),(a24 == 1),rfl,rfl,rfl,rfl,h8_1,h8_2,h8_3,rfl,rfl,rfl,(by omega),(by rw [any_succ,← Bool.or_assoc,← p8_1]; simp [Ahz,Aql b17,b14,b17,b19,b20,ha24]),(by rw [any_succ,← p8_2]; simp [Akd,Aql b17,b14,b17,b19,b20,ha24]),trivial⟩
    omega
   refine Ak (Ar rfl rfl rfl b19) (Ay FTest.f_sees Tryd.underlying108 rfl rfl Aex (by decide) h8_3 r2) fun v26 r26=>?_
   refine Ak (Ar rfl rfl rfl b19) (Ax Aex rfl r26) fun v27 r27=>?_
   refine Aa (Ar rfl rfl rfl b19) (Ah (v:=(iV ((i:Int)))) h8_9) ?_
   obtain ⟨a29,ha29⟩:=Ed (xs:=t.sees) (i:=i) (by omega)
   refine Ak (Ar rfl rfl rfl b19) (Ci i Tryd.underlying46 Ov rfl r27 (q:=(i:Int)) rfl rfl ha29) fun v28 r28=>?_
   have ⟨g30a,g30b⟩:=At.rng r28
   refine Aa (Ar rfl rfl rfl b19) (Bc Ov rfl r28) ?_
   refine Aa (Ar rfl rfl rfl b19) (Dg (p:=a29) (q:=2) rfl rfl) ?_
   refine Aa rfl (Bm rfl b19 (v:=(.bool (a29 != 2))) rfl) ?_
   refine l_A (.bool (a29 != 2)) rfl rfl ?_
   apply Ac
   apply k18
   refine Ag rfl rfl ?_
   refine Aa rfl (Ah (v:=(.bool (su))) h8_8) ?_
   refine l_M (.bool (su)) rfl rfl ?_
   refine Cn (su) (fun b31=>?_) (fun b31=>?_)
   ·refine Ap (Bl rfl rfl rfl b31) ?_
    refine Ap (Bl rfl rfl rfl b31) ?_
    refine Ap (Bl rfl rfl rfl b31) ?_
    refine Ap (Bl rfl rfl rfl b31) ?_
    refine Ap (Bl rfl rfl rfl b31) ?_
    refine Ap (Bl rfl rfl rfl b31) ?_
    refine Aa rfl (Bt rfl b31 (v:=(.bool (true))) rfl) ?_
    refine l_A (.bool (true)) rfl rfl ?_
    apply Ac
    apply k15
    refine Ag rfl rfl ?_
    refine Aa rfl (Ah (v:=(iV ((i:Int)))) h8_9) ?_
    refine Aa rfl (Br (p:=(i:Int)) (q:=1) rfl rfl (z:=(((i + 1):Nat):Int)) (Bo (by first | rfl | omega | (push_cast; rfl)) (by omega) (by omega))) ?_
    refine l_A (iV ((((i + 1):Nat):Int))) rfl rfl ?_
    apply Ac
    refine ⟨_,?_,((i + 1)),(a29 != 2),(true),rfl,rfl,rfl,rfl,h8_1,h8_2,h8_3,rfl,rfl,rfl,(by omega),(by rw [any_succ,← Bool.or_assoc,← p8_1]; simp [Ahz,Aql b17,b14,b17,b19,b31,ha29]),(by rw [any_succ,← p8_2]; simp [Akd,Aql b17,b14,b17,b19,b31,ha29]),trivial⟩
    omega
   refine Ak (Ar rfl rfl rfl b31) (Ay FTest.f_sees Tryd.underlying108 rfl rfl Aex (by decide) h8_3 r2) fun v32 r32=>?_
   refine Ak (Ar rfl rfl rfl b31) (Ax Aex rfl r32) fun v33 r33=>?_
   refine Aa (Ar rfl rfl rfl b31) (Ah (v:=(iV ((i:Int)))) h8_9) ?_
   refine Ak (Ar rfl rfl rfl b31) (Ci i Tryd.underlying46 Ov rfl r33 (q:=(i:Int)) rfl rfl ha29) fun v34 r34=>?_
   have ⟨g35a,g35b⟩:=At.rng r34
   refine Aa (Ar rfl rfl rfl b31) (Bc Ov rfl r34) ?_
   refine Aa (Ar rfl rfl rfl b31) (Ek (p:=a29) (q:=1) rfl rfl) ?_
   refine Aa rfl (Bm rfl b31 (v:=(.bool (a29 == 1))) rfl) ?_
   refine l_A (.bool (a29 == 1)) rfl rfl ?_
   apply Ac
   apply k15
   refine Ag rfl rfl ?_
   refine Aa rfl (Ah (v:=(iV ((i:Int)))) h8_9) ?_
   refine Aa rfl (Br (p:=(i:Int)) (q:=1) rfl rfl (z:=(((i + 1):Nat):Int)) (Bo (by first | rfl | omega | (push_cast; rfl)) (by omega) (by omega))) ?_
   refine l_A (iV ((((i + 1):Nat):Int))) rfl rfl ?_
   apply Ac
   refine ⟨_,?_,((i + 1)),(a29 != 2),(a29 == 1),rfl,rfl,rfl,rfl,h8_1,h8_2,h8_3,rfl,rfl,rfl,(by omega),(by rw [any_succ,← Bool.or_assoc,← p8_1]; simp [Ahz,Aql b17,b14,b17,b19,b31,ha29]),(by rw [any_succ,← p8_2]; simp [Akd,Aql b17,b14,b17,b19,b31,ha29]),trivial⟩
   omega
  have q17:=La b17
  refine Al ?_
  apply k15
  refine Ag rfl rfl ?_
  refine Aa rfl (Ah (v:=(iV ((i:Int)))) h8_9) ?_
  refine Aa rfl (Br (p:=(i:Int)) (q:=1) rfl rfl (z:=(((i + 1):Nat):Int)) (Bo (by first | rfl | omega | (push_cast; rfl)) (by omega) (by omega))) ?_
  refine l_A (iV ((((i + 1):Nat):Int))) rfl rfl ?_
  apply Ac
  refine ⟨_,?_,((i + 1)),(so),(su),rfl,rfl,rfl,rfl,h8_1,h8_2,h8_3,h8_7,h8_8,rfl,(by omega),(by rw [any_succ,← Bool.or_assoc,← p8_1]; simp [Ahz,Aqp b17,b14,b17]),(by rw [any_succ,← p8_2]; simp [Akd,Aqp b17,b14,b17]),trivial⟩
  omega
 have q14:=of_decide_eq_false b14
 refine Bx ?_
 apply k6
 refine Ai fun K36 k36=>?_
 refine w_q rfl rfl fun K37 k37=>?_
 refine Aa rfl (Ah (v:=(.bool (found))) h8_2) ?_
 apply Ac
 apply k37
 refine As (t:=found) rfl (fun b38=>?_) (fun b38=>?_)
 ·refine w_q rfl rfl fun K39 k39=>?_
  refine Aa rfl (Ah (v:=(.bool (so))) h8_7) ?_
  refine l_A (.bool (so)) rfl rfl ?_
  apply Ac
  apply k39
  refine Aj (Arw l2) ?_
  refine Aq ?_
  refine hret _ _ _ ?_
  refine ⟨rfl,rfl,Eq.trans (b:=(.bool (so))) rfl ?_⟩
  have hi:i = t.sees.length:=by omega
  subst hi
  simp only [Afm,b14,b38,if_true,Bool.false_eq_true,if_false,p8_1,p8_2]
 refine Al ?_
 apply k36
 refine w_q rfl rfl fun K40 k40=>?_
 refine Aa rfl (Ah (v:=(.bool (su))) h8_8) ?_
 refine Aa rfl (Ix (k:=su) rfl) ?_
 refine l_A (.bool (!(su))) rfl rfl ?_
 apply Ac
 apply k40
 refine Aj (Arw l2) ?_
 refine Aq ?_
 refine hret _ _ _ ?_
 refine ⟨rfl,rfl,Eq.trans (b:=(.bool (!(su)))) rfl ?_⟩
 have hi:i = t.sees.length:=by omega
 subst hi
 simp only [Afm,b14,b38,if_true,Bool.false_eq_true,if_false,p8_1,p8_2]
end Go.Proofs.YtoefdnbaklajeaaDoor

namespace Go.Proofs.YtoefdnbaklajeaaDoor
open Go
theorem ints_filter_succ {p:Nat→Bool} {i:Nat}:Bw ((List.range (i + 1)).filter p) = Bw ((List.range i).filter p) ++ (if p i then [(i:Int)] else []):=by
  unfold Bw
  rw [List.range_succ,List.filter_append,List.map_append]
  congr 1
  cases h:p i <;> simp [List.filter,h]
theorem ints_take_succ {p:Nat→Bool} {l:List Nat} {i a:Nat} (h:l[i]? = some a):Bw ((l.take (i + 1)).filter p) = Bw ((l.take i).filter p) ++ (if p a then [(a:Int)] else []):=by
  unfold Bw
  rw [List.take_add_one,h,List.filter_append,List.map_append]
  congr 1
  cases h:p a <;> simp [List.filter,h]
end Go.Proofs.YtoefdnbaklajeaaDoor

namespace Go.Proofs.YtoefdnbaklajeaaDoor
open Go
set_option maxRecDepth 100000 in
theorem c_refSets {mn:Bool} {X:Frame→List Frame→Ro→Own→Cy→Prop} {ρ:Ro} {σ:Own} {l:Lab} {vl:Value} (rl:Val ρ vl l) (ok:LabOk l):CallsH (CX mn X) 101 #[vl] ρ σ (fun w ρ' σ'=>Ro.le ρ ρ'∧σ' = σ∧Val ρ' w (Bw (Hk l):List Int)):=by
 have hk:=ok.n4
 have hsm:=Rj hk
 refine Bh (n:=23) (args:=[vl]) [2] Tryd.func101 rfl rfl rfl rfl fun Q hret hnor=>?_
 refine w_q rfl rfl fun K1 k1=>?_
 refine Ae rfl (Eb (v:=vl) rfl fun k2=>?_)
 refine Bb (a:=l) rl fun ρ2 l2 r2=>?_
 replace rl:=Asa l2 rl
 refine l_A (.slice none 0 0) rfl rfl ?_
 apply Ac
 apply k1
 refine w_q rfl rfl fun K3 k3=>?_
 refine l_A (.slice none 0 0) rfl rfl ?_
 apply Ac
 apply k3
 refine Ai fun K4 k4=>?_
 refine w_q rfl rfl fun K5 k5=>?_
 refine l_A (iV (0)) rfl rfl ?_
 apply Ac
 apply k5
 refine Ao ?_
 refine Cc (fun mm ee dd ρ' σ'=>∃ (i:Nat) (ov6_3:Value) (og6_3:Own),(1 <<< l.kinds.length - i) = mm∧[] = dd∧Ro.le ρ2 ρ'∧(og6_3 ++ σ) = σ'∧ee 1 = (.pointer (some ⟨k2,0,none⟩))∧ee 3 = ov6_3∧ee 4 = (iV ((i:Int)))∧(i ≤ 1 <<< l.kinds.length)∧Grow ρ' 3 ov6_3 (Bw ((List.range i).filter (Adf l))) og6_3∧True) (m:=_) ⟨0,(.slice none 0 0),[],rfl,rfl,Ary,rfl,rfl,rfl,rfl,(Nat.zero_le _),Hn,trivial⟩ ?_
 rintro m6 e6 _ ρ6 _ ⟨i,ov6_3,og6_3,rfl,rfl,l6,rfl,h6_1,h6_3,h6_4,p6_0,OG6_3,_⟩
 replace r2:=Arv l6 r2
 refine Ai fun K7 k7=>?_
 refine w_q rfl rfl fun K8 k8=>?_
 refine Aa rfl (Ah (v:=(iV ((i:Int)))) h6_4) ?_
 refine Ak rfl (Ay Lab.f_kinds Tryd.underlying40 rfl rfl Hu (by decide) h6_1 r2) fun v9 r9=>?_
 refine Ak rfl (Ax Hu rfl r9) fun v10 r10=>?_
 have g11:=Val.len r10
 refine Aa rfl (Ce (el:=9) Tryd.underlying22 rfl r10) ?_
 refine Aa rfl (Ly (p:=1) (q:=l.kinds.length) rfl rfl rfl (by omega) (z:=(((1 <<< l.kinds.length):Nat):Int)) (Bo rfl (by omega) (by omega))) ?_
 refine Aa rfl (Da (p:=(i:Int)) (q:=(((1 <<< l.kinds.length):Nat):Int)) rfl rfl) ?_
 apply Ac
 apply k8
 refine As (t:=decide ((i:Int) < (((1 <<< l.kinds.length):Nat):Int))) rfl (fun b12=>?_) (fun b12=>?_)
 ·have q12:=of_decide_eq_true b12
  refine Al ?_
  apply k7
  refine Ai fun K13 k13=>?_
  refine Ao ?_
  refine Ai fun K14 k14=>?_
  refine Dc [0,1,2,3,4] (by kernel_rfl) rfl rfl ?_
  refine Be (i:=0) [o1,o0,o0,o0,o0] rfl (by kernel_rfl) rfl Ary rfl (Ah (v:=(iV ((i:Int)))) h6_4) ?_
  refine Cd (i:=2) [o1,o0,o1,o0,o0] rfl (by kernel_rfl) rfl Ary rfl (Ay Lab.f_most Tryd.underlying40 rfl rfl ty3 (by decide) h6_1 r2) fun v15 r15=>?_
  have ⟨g16a,g16b⟩:=At.rng r15
  refine Be (i:=3) [o1,o0,o1,o1,o0] rfl (by kernel_rfl) rfl Ary rfl (Bc ty3 rfl r15) ?_
  refine Dj (i:=1) [o1,o1,o1,o1,o0] rfl (by kernel_rfl) rfl rfl (Bn (vs:=[(iV ((i:Int)))]) (v:=(iV (((De i:Nat):Int)))) (c_size (by omega)) Tryd.func99 rfl rfl ⟨rfl,trivial⟩ ⟨Ary,?_⟩)
  refine Bg (i:=4) [o1,o1,o1,o1,o1] rfl (by kernel_rfl) rfl Ary rfl (Tx (p:=((De i:Nat):Int)) (q:=l.most) rfl rfl) ?_
  refine Ec rfl ?_
  apply k14
  refine As (t:=decide (((De i:Nat):Int) ≤ l.most)) rfl (fun b17=>?_) (fun b17=>?_)
  ·have q17:=of_decide_eq_true b17
   refine Ag rfl rfl ?_
   refine Aa rfl (Ah (v:=ov6_3) h6_3) ?_
   refine Aa rfl (Ah (v:=(iV ((i:Int)))) h6_4) ?_
   refine Ae rfl (Bi (α:=Int) (xs:=[(i:Int)]) (vs:=[(iV ((i:Int)))]) Tryd.underlying30 ty3 zr3 rfl (by decide) (Dl (os:=[.tmp 19]) ⟨rfl,trivial⟩) ⟨(Cv.2 ⟨rfl,by constructor <;> omega⟩),trivial⟩ rfl (by decide) fun k18 cs18 R18=>?_)
   have G18:Grow ρ6 3 (.slice (some ⟨k18,0,none⟩) 1 1) ([(i:Int)]:List Int) [(k18,.obj (.cells cs18.toArray 3 (0,0)))]:=Bs R18 rfl (by decide)
   refine Ca G18 fun ρ20 l20 r20=>?_
   replace r2:=Arv l20 r2
   replace OG6_3:=Grow.mono l20 OG6_3
   refine Ae rfl (Fx (σ:=σ) (gr:=og6_3) (xs:=Bw ((List.range i).filter (Adf l))) (ys:=([(i:Int)]:List Int)) Tryd.underlying30 Tryd.underlying30 (Ab Tryd.typeInfo3) rfl (Nat.le_of_ble_eq_true rfl) rfl rfl rfl rfl OG6_3 r20 (by have h1:=List.length_filter_le (Adf l) (List.range i); simp only [Fe,List.length_append,List.length_cons,List.length_nil,List.length_range,List.length_take] at *; omega) fun v19 gr19 G19=>?_)
   refine l_A v19 rfl rfl ?_
   apply Ac
   apply k13
   refine Ag rfl rfl ?_
   refine Aa rfl (Ah (v:=(iV ((i:Int)))) h6_4) ?_
   refine Aa rfl (Br (p:=(i:Int)) (q:=1) rfl rfl (z:=(((i + 1):Nat):Int)) (Bo (by first | rfl | omega | (push_cast; rfl)) (by omega) (by omega))) ?_
   refine l_A (iV ((((i + 1):Nat):Int))) rfl rfl ?_
   apply Ac
   refine ⟨_,?_,((i + 1)),v19,gr19,rfl,rfl,(Arz l6 l20),rfl,h6_1,rfl,rfl,(by omega),(Ga (by rw [ints_filter_succ]; simp [Adf,b12,b17]) G19),trivial⟩
   omega
  have q17:=of_decide_eq_false b17
  refine Al ?_
  apply k13
  refine Ag rfl rfl ?_
  refine Aa rfl (Ah (v:=(iV ((i:Int)))) h6_4) ?_
  refine Aa rfl (Br (p:=(i:Int)) (q:=1) rfl rfl (z:=(((i + 1):Nat):Int)) (Bo (by first | rfl | omega | (push_cast; rfl)) (by omega) (by omega))) ?_
  refine l_A (iV ((((i + 1):Nat):Int))) rfl rfl ?_
  apply Ac
  refine ⟨_,?_,((i + 1)),ov6_3,og6_3,rfl,rfl,l6,rfl,h6_1,h6_3,rfl,(by omega),(Ga (by rw [ints_filter_succ]; simp [Adf,b12,b17]) OG6_3),trivial⟩
  omega
 have q12:=of_decide_eq_false b12
 refine Bx ?_
 apply k4
 refine w_q rfl rfl fun K21 k21=>?_
 refine Aa rfl (Ah (v:=ov6_3) h6_3) ?_
 refine l_A ov6_3 rfl rfl ?_
 apply Ac
 apply k21
 refine Gy OG6_3 fun ρ22 l22 r22=>?_
 refine Aq ?_
 refine hret _ _ _ ?_
 refine ⟨(Arz (Arz l2 l6) l22),rfl,Aci (v:=ov6_3) rfl (Val.cast ?_ r22)⟩
 ·have hi:i = 1 <<< l.kinds.length:=by omega
  rw [hi]; rfl
set_option maxRecDepth 100000 in
theorem c_refafter {mn:Bool} {X:Frame→List Frame→Ro→Own→Cy→Prop} {ρ:Ro} {σ:Own} {l:Lab} {vl vs vr:Value} {sets:List Nat} {r:Found} (rl:Val ρ vl l) (rs:Val ρ vs (Bw sets)) (rr:Val ρ vr r) (hr:0 ≤ r.test∧r.test < (l.tests.length:Int)) (hs:∀ a ∈ sets,a < 16) (hl:sets.length ≤ 16):CallsH (CX mn X) 108 #[vl,vs,vr] ρ σ (fun w ρ' σ'=>Ro.le ρ ρ'∧σ' = σ∧Val ρ' w (Bw (Au l sets r):List Int)):=by
 have hl2:=Fe (l:=sets)
 refine Bh (n:=36) (args:=[vl,vs,vr]) [6] Tryd.func108 rfl rfl rfl rfl fun Q hret hnor=>?_
 refine w_q rfl rfl fun K1 k1=>?_
 refine Ae rfl (Eb (v:=vl) rfl fun k2=>?_)
 refine Bb (a:=l) rl fun ρ2 l2 r2=>?_
 replace rl:=Asa l2 rl
 replace rs:=Asa l2 rs
 replace rr:=Asa l2 rr
 refine Ae rfl (Eb (v:=vr) rfl fun k3=>?_)
 refine Bb (a:=r) rr fun ρ3 l3 r3=>?_
 replace rl:=Asa l3 rl
 replace rs:=Asa l3 rs
 replace rr:=Asa l3 rr
 replace r2:=Arv l3 r2
 refine l_A (.slice none 0 0) rfl rfl ?_
 apply Ac
 apply k1
 refine w_q rfl rfl fun K4 k4=>?_
 refine l_A (.slice none 0 0) rfl rfl ?_
 apply Ac
 apply k4
 refine Ai fun K5 k5=>?_
 refine w_q rfl rfl fun K6 k6=>?_
 refine l_A (iV (0)) rfl rfl ?_
 apply Ac
 apply k6
 refine Ao ?_
 refine Cc (fun mm ee dd ρ' σ'=>∃ (i:Nat) (ov7_7:Value) (og7_7:Own),(sets.length - i) = mm∧[] = dd∧Ro.le ρ3 ρ'∧(og7_7 ++ σ) = σ'∧ee 1 = vs∧ee 3 = (.pointer (some ⟨k2,0,none⟩))∧ee 5 = (.pointer (some ⟨k3,0,none⟩))∧ee 7 = ov7_7∧ee 8 = (iV ((i:Int)))∧(i ≤ sets.length)∧Grow ρ' 3 ov7_7 (Bw ((sets.take i).filter (Qg l r))) og7_7∧True) (m:=_) ⟨0,(.slice none 0 0),[],rfl,rfl,Ary,rfl,rfl,rfl,rfl,rfl,rfl,(Nat.zero_le _),Hn,trivial⟩ ?_
 rintro m7 e7 _ ρ7 _ ⟨i,ov7_7,og7_7,rfl,rfl,l7,rfl,h7_1,h7_3,h7_5,h7_7,h7_8,p7_0,OG7_7,_⟩
 replace rs:=Asa l7 rs
 replace r2:=Arv l7 r2
 replace r3:=Arv l7 r3
 refine Ai fun K8 k8=>?_
 refine w_q rfl rfl fun K9 k9=>?_
 refine Aa rfl (Ah (v:=(iV ((i:Int)))) h7_8) ?_
 refine Aa rfl (Ah (v:=vs) h7_1) ?_
 have g10:=Val.len rs
 refine Aa rfl (Ce (el:=3) Tryd.underlying30 rfl rs) ?_
 refine Aa rfl (Da (p:=(i:Int)) (q:=(((Bw sets).length:Nat):Int)) rfl rfl) ?_
 apply Ac
 apply k9
 refine As (t:=decide ((i:Int) < (((Bw sets).length:Nat):Int))) rfl (fun b11=>?_) (fun b11=>?_)
 ·have q11:=of_decide_eq_true b11
  refine Al ?_
  apply k8
  refine Ai fun K12 k12=>?_
  refine Ao ?_
  refine Ai fun K13 k13=>?_
  refine Dc [0,1,2,3,4,5,6,7,8,9,10,11,12] (by kernel_rfl) rfl rfl ?_
  refine Cd (i:=0) [o1,o0,o0,o0,o0,o0,o0,o0,o0,o0,o0,o0,o0] rfl (by kernel_rfl) rfl Ary rfl (Ay Lab.f_tests Tryd.underlying40 rfl rfl Vd (by decide) h7_3 r2) fun v14 r14=>?_
  refine Cd (i:=1) [o1,o1,o0,o0,o0,o0,o0,o0,o0,o0,o0,o0,o0] rfl (by kernel_rfl) rfl Ary rfl (Ax Vd rfl r14) fun v15 r15=>?_
  refine Cd (i:=2) [o1,o1,o1,o0,o0,o0,o0,o0,o0,o0,o0,o0,o0] rfl (by kernel_rfl) rfl Ary rfl (Ay Found.f_test Tryd.underlying43 rfl rfl ty3 (by decide) h7_5 r3) fun v16 r16=>?_
  have ⟨g17a,g17b⟩:=At.rng r16
  refine Be (i:=3) [o1,o1,o1,o1,o0,o0,o0,o0,o0,o0,o0,o0,o0] rfl (by kernel_rfl) rfl Ary rfl (Bc ty3 rfl r16) ?_
  obtain ⟨a19,ha19⟩:=Ed (xs:=l.tests) (i:=(r.test).toNat) (by omega)
  refine Cd (i:=4) [o1,o1,o1,o1,o1,o0,o0,o0,o0,o0,o0,o0,o0] rfl (by kernel_rfl) rfl Ary rfl (Ci ((r.test).toNat) Tryd.underlying38 Td rfl r15 (q:=r.test) rfl (by omega) ha19) fun v18 r18=>?_
  refine Cd (i:=5) [o1,o1,o1,o1,o1,o1,o0,o0,o0,o0,o0,o0,o0] rfl (by kernel_rfl) rfl Ary rfl (Ax Td rfl r18) fun v20 r20=>?_
  refine Be (i:=6) [o1,o1,o1,o1,o1,o1,o1,o0,o0,o0,o0,o0,o0] rfl (by kernel_rfl) rfl Ary rfl (Ah (v:=vs) h7_1) ?_
  refine Be (i:=7) [o1,o1,o1,o1,o1,o1,o1,o1,o0,o0,o0,o0,o0] rfl (by kernel_rfl) rfl Ary rfl (Ah (v:=(iV ((i:Int)))) h7_8) ?_
  obtain ⟨a22,ha22⟩:=Ed (xs:=Bw sets) (i:=i) (by omega)
  obtain ⟨b23,hb23,hz23⟩:=Uc ha22
  subst hz23
  have hq23:=hs b23 (List.mem_of_getElem? hb23)
  refine Cd (i:=8) [o1,o1,o1,o1,o1,o1,o1,o1,o1,o0,o0,o0,o0] rfl (by kernel_rfl) rfl Ary rfl (Ci i Tryd.underlying30 ty3 rfl rs (q:=(i:Int)) rfl rfl ha22) fun v21 r21=>?_
  have ⟨g24a,g24b⟩:=At.rng r21
  refine Be (i:=9) [o1,o1,o1,o1,o1,o1,o1,o1,o1,o1,o0,o0,o0] rfl (by kernel_rfl) rfl Ary rfl (Bc ty3 rfl r21) ?_
  refine Hl (i:=10) [o1,o1,o1,o1,o1,o1,o1,o1,o1,o1,o1,o0,o0] rfl (by kernel_rfl) rfl Ary rfl (Ay Found.f_found Tryd.underlying43 rfl rfl ty4 (by decide) h7_5 r3) fun v25 r25=>?_
  refine Bg (i:=11) [o1,o1,o1,o1,o1,o1,o1,o1,o1,o1,o1,o1,o0] rfl (by kernel_rfl) rfl Ary rfl (Nw ty4 rfl r25) ?_
  refine Dj (i:=12) [o1,o1,o1,o1,o1,o1,o1,o1,o1,o1,o1,o1,o1] rfl (by kernel_rfl) rfl rfl (Bn (vs:=[v20,(iV ((b23:Int))),(.bool (r.found))]) (v:=(.bool (Afm a19 b23 r.found))) (c_Can r20 (by omega)) Tryd.func107 rfl rfl ⟨rfl,rfl,rfl,trivial⟩ ⟨Ary,?_⟩)
  refine Ec rfl ?_
  apply k13
  refine As (t:=Afm a19 b23 r.found) rfl (fun b27=>?_) (fun b27=>?_)
  ·refine Ag rfl rfl ?_
   refine Aa rfl (Ah (v:=ov7_7) h7_7) ?_
   refine Aa rfl (Ah (v:=vs) h7_1) ?_
   refine Aa rfl (Ah (v:=(iV ((i:Int)))) h7_8) ?_
   refine Ak rfl (Ci i Tryd.underlying30 ty3 rfl rs (q:=(i:Int)) rfl rfl ha22) fun v28 r28=>?_
   have ⟨g29a,g29b⟩:=At.rng r28
   refine Aa rfl (Bc ty3 rfl r28) ?_
   refine Ae rfl (Bi (α:=Int) (xs:=[(b23:Int)]) (vs:=[(iV ((b23:Int)))]) Tryd.underlying30 ty3 zr3 rfl (by decide) (Dl (os:=[.tmp 32]) ⟨rfl,trivial⟩) ⟨(Cv.2 ⟨rfl,by constructor <;> omega⟩),trivial⟩ rfl (by decide) fun k30 cs30 R30=>?_)
   have G30:Grow ρ7 3 (.slice (some ⟨k30,0,none⟩) 1 1) ([(b23:Int)]:List Int) [(k30,.obj (.cells cs30.toArray 3 (0,0)))]:=Bs R30 rfl (by decide)
   refine Ca G30 fun ρ32 l32 r32=>?_
   replace rs:=Asa l32 rs
   replace r2:=Arv l32 r2
   replace r3:=Arv l32 r3
   replace OG7_7:=Grow.mono l32 OG7_7
   replace r28:=Arv l32 r28
   refine Ae rfl (Fx (σ:=σ) (gr:=og7_7) (xs:=Bw ((sets.take i).filter (Qg l r))) (ys:=([(b23:Int)]:List Int)) Tryd.underlying30 Tryd.underlying30 (Ab Tryd.typeInfo3) rfl (Nat.le_of_ble_eq_true rfl) rfl rfl rfl rfl OG7_7 r32 (by have h1:=List.length_filter_le (Qg l r) (sets.take i); simp only [Fe,List.length_append,List.length_cons,List.length_nil,List.length_range,List.length_take] at *; omega) fun v31 gr31 G31=>?_)
   refine l_A v31 rfl rfl ?_
   apply Ac
   apply k12
   refine Ag rfl rfl ?_
   refine Aa rfl (Ah (v:=(iV ((i:Int)))) h7_8) ?_
   refine Aa rfl (Br (p:=(i:Int)) (q:=1) rfl rfl (z:=(((i + 1):Nat):Int)) (Bo (by first | rfl | omega | (push_cast; rfl)) (by omega) (by omega))) ?_
   refine l_A (iV ((((i + 1):Nat):Int))) rfl rfl ?_
   apply Ac
   refine ⟨_,?_,((i + 1)),v31,gr31,rfl,rfl,(Arz l7 l32),rfl,h7_1,h7_3,h7_5,rfl,rfl,(by omega),(Ga (by rw [ints_take_succ hb23]; simp [Qg,ha19,b11,b27]) G31),trivial⟩
   omega
  refine Al ?_
  apply k12
  refine Ag rfl rfl ?_
  refine Aa rfl (Ah (v:=(iV ((i:Int)))) h7_8) ?_
  refine Aa rfl (Br (p:=(i:Int)) (q:=1) rfl rfl (z:=(((i + 1):Nat):Int)) (Bo (by first | rfl | omega | (push_cast; rfl)) (by omega) (by omega))) ?_
  refine l_A (iV ((((i + 1):Nat):Int))) rfl rfl ?_
  apply Ac
  refine ⟨_,?_,((i + 1)),ov7_7,og7_7,rfl,rfl,l7,rfl,h7_1,h7_3,h7_5,h7_7,rfl,(by omega),(Ga (by rw [ints_take_succ hb23]; simp [Qg,ha19,b11,b27]) OG7_7),trivial⟩
  omega
 have q11:=of_decide_eq_false b11
 refine Bx ?_
 apply k5
 refine w_q rfl rfl fun K33 k33=>?_
 refine Aa rfl (Ah (v:=ov7_7) h7_7) ?_
 refine l_A ov7_7 rfl rfl ?_
 apply Ac
 apply k33
 refine Gy OG7_7 fun ρ34 l34 r34=>?_
 refine Aq ?_
 refine hret _ _ _ ?_
 refine ⟨(Arz (Arz (Arz l2 l3) l7) l34),rfl,Aci (v:=ov7_7) rfl (Val.cast ?_ r34)⟩
 ·rw [List.take_of_length_le (by omega)]; rfl
set_option maxRecDepth 100000 in
theorem c_refRemain {mn:Bool} {X:Frame→List Frame→Ro→Own→Cy→Prop} {ρ:Ro} {σ:Own} {l:Lab} {vl vr:Value} {rs:List Found} (rl:Val ρ vl l) (rr:Val ρ vr rs) (ok:LabOk l) (hrs:∀ (i:Nat) (r:Found),rs[i]? = some r→0 ≤ r.test∧r.test < (l.tests.length:Int)):CallsH (CX mn X) 55 #[vl,vr] ρ σ (fun w ρ' σ'=>Ro.le ρ ρ'∧σ' = σ∧Val ρ' w (Bw (Ba l rs):List Int)):=by
 refine Bh (n:=23) (args:=[vl,vr]) [4] Tryd.func55 rfl rfl rfl rfl fun Q hret hnor=>?_
 refine w_q rfl rfl fun K1 k1=>?_
 refine Ae rfl (Eb (v:=vl) rfl fun k2=>?_)
 refine Bb (a:=l) rl fun ρ2 l2 r2=>?_
 replace rl:=Asa l2 rl
 replace rr:=Asa l2 rr
 refine l_A (.slice none 0 0) rfl rfl ?_
 apply Ac
 apply k1
 refine w_q rfl rfl fun K3 k3=>?_
 refine Ak rfl (Ax Aaj rfl r2) fun v4 r4=>?_
 refine Ae rfl (Cm (vs:=[v4]) (c_refSets r4 ok) Tryd.func101 rfl rfl ⟨rfl,trivial⟩ fun v5 ρ5 σ5 hc5=>?_)
 obtain ⟨l5,s5,r5⟩:=hc5
 replace s5:=s5.symm; subst s5
 replace rr:=Asa l5 rr
 replace r2:=Arv l5 r2
 replace r4:=Asa l5 r4
 refine l_A v5 rfl rfl ?_
 apply Ac
 apply k3
 refine Ai fun K6 k6=>?_
 refine w_q rfl rfl fun K7 k7=>?_
 refine l_A (iV (0)) rfl rfl ?_
 apply Ac
 apply k7
 refine Ao ?_
 refine Cc (fun mm ee dd ρ' σ'=>∃ (i:Nat) (vv8_5:Value),(rs.length - i) = mm∧[] = dd∧Ro.le ρ5 ρ'∧σ = σ'∧ee 1 = vr∧ee 2 = (.pointer (some ⟨k2,0,none⟩))∧ee 5 = vv8_5∧ee 6 = (iV ((i:Int)))∧(i ≤ rs.length)∧Val ρ' vv8_5 (Bw (Ba l (rs.take i)):List Int)∧True) (m:=_) ⟨0,v5,rfl,rfl,Ary,rfl,rfl,rfl,rfl,rfl,(Nat.zero_le _),(Val.cast (rfl) r5),trivial⟩ ?_
 rintro m8 e8 _ ρ8 _ ⟨i,vv8_5,rfl,rfl,l8,rfl,h8_1,h8_2,h8_5,h8_6,p8_0,VV8_5,_⟩
 replace rr:=Asa l8 rr
 replace r2:=Arv l8 r2
 refine Ai fun K9 k9=>?_
 refine w_q rfl rfl fun K10 k10=>?_
 refine Aa rfl (Ah (v:=(iV ((i:Int)))) h8_6) ?_
 refine Aa rfl (Ah (v:=vr) h8_1) ?_
 have g11:=Val.len rr
 refine Aa rfl (Ce (el:=43) Tryd.underlying41 rfl rr) ?_
 refine Aa rfl (Da (p:=(i:Int)) (q:=((rs.length:Nat):Int)) rfl rfl) ?_
 apply Ac
 apply k10
 refine As (t:=decide ((i:Int) < ((rs.length:Nat):Int))) rfl (fun b12=>?_) (fun b12=>?_)
 ·have q12:=of_decide_eq_true b12
  refine Al ?_
  apply k9
  refine Ai fun K13 k13=>?_
  refine Ao ?_
  refine Dc [0,1,2,3,4,5,6,7] (by kernel_rfl) rfl rfl ?_
  refine Cd (i:=0) [o1,o0,o0,o0,o0,o0,o0,o0] rfl (by kernel_rfl) rfl Ary rfl (Ax Aaj h8_2 r2) fun v14 r14=>?_
  refine Be (i:=1) [o1,o1,o0,o0,o0,o0,o0,o0] rfl (by kernel_rfl) rfl Ary rfl (Ah (v:=vv8_5) h8_5) ?_
  refine Be (i:=2) [o1,o1,o1,o0,o0,o0,o0,o0] rfl (by kernel_rfl) rfl Ary rfl (Ah (v:=vr) h8_1) ?_
  refine Bg (i:=3) [o1,o1,o1,o1,o0,o0,o0,o0] rfl (by kernel_rfl) rfl Ary rfl (Ah (v:=(iV ((i:Int)))) h8_6) ?_
  obtain ⟨a16,ha16⟩:=Ed (xs:=rs) (i:=i) (by omega)
  refine Hl (i:=4) [o1,o1,o1,o1,o1,o0,o0,o0] rfl (by kernel_rfl) rfl Ary rfl (Ci i Tryd.underlying41 Aax rfl rr (q:=(i:Int)) rfl rfl ha16) fun v15 r15=>?_
  refine Hl (i:=5) [o1,o1,o1,o1,o1,o1,o0,o0] rfl (by kernel_rfl) rfl Ary rfl (Ax Aax rfl r15) fun v17 r17=>?_
  refine Dj (i:=6) [o1,o1,o1,o1,o1,o1,o1,o0] rfl (by kernel_rfl) rfl rfl (Cm (vs:=[v14,vv8_5,v17]) (c_refafter (sets:=(Ba l (rs.take i))) r14 VV8_5 r17 (hrs _ _ ha16) (Qp ok).2 (Qp ok).1) Tryd.func108 rfl rfl ⟨rfl,rfl,rfl,trivial⟩ fun v18 ρ18 σ18 hc18=>?_)
  obtain ⟨l18,s18,r18⟩:=hc18
  replace s18:=s18.symm; subst s18
  replace rr:=Asa l18 rr
  replace r2:=Arv l18 r2
  replace VV8_5:=Asa l18 VV8_5
  replace r14:=Asa l18 r14
  replace r15:=Arv l18 r15
  replace r17:=Asa l18 r17
  refine ⟨l18,?_⟩
  refine Bg (i:=7) [o1,o1,o1,o1,o1,o1,o1,o1] rfl (by kernel_rfl) rfl l18 rfl (Cp (v:=v18) rfl) ?_
  refine Ec rfl ?_
  apply k13
  refine Ag rfl rfl ?_
  refine Aa rfl (Ah (v:=(iV ((i:Int)))) h8_6) ?_
  refine Aa rfl (Br (p:=(i:Int)) (q:=1) rfl rfl (z:=(((i + 1):Nat):Int)) (Bo (by first | rfl | omega | (push_cast; rfl)) (by omega) (by omega))) ?_
  refine l_A (iV ((((i + 1):Nat):Int))) rfl rfl ?_
  apply Ac
  refine ⟨_,?_,((i + 1)),v18,rfl,rfl,(Arz l8 l18),rfl,h8_1,h8_2,rfl,rfl,(by omega),(Val.cast (by rw [Zc ha16]) r18),trivial⟩
  omega
 have q12:=of_decide_eq_false b12
 refine Bx ?_
 apply k6
 refine w_q rfl rfl fun K19 k19=>?_
 refine Aa rfl (Ah (v:=vv8_5) h8_5) ?_
 refine l_A vv8_5 rfl rfl ?_
 apply Ac
 apply k19
 refine Aq ?_
 refine hret _ _ _ ?_
 refine ⟨(Arz (Arz l2 l5) l8),rfl,Aci (v:=vv8_5) rfl (Val.cast ?_ VV8_5)⟩
 ·rw [List.take_of_length_le (by omega)]
end Go.Proofs.YtoefdnbaklajeaaDoor

namespace Go.Proofs.YtoefdnbaklajeaaDoor
open Go
set_option maxRecDepth 100000 in
theorem c_refCheckResults {mn:Bool} {X:Frame→List Frame→Ro→Own→Cy→Prop} {ρ:Ro} {σ:Own} {l:Lab} {vl vr:Value} {rs:List Found} (rl:Val ρ vl l) (rr:Val ρ vr rs):CallsH (CX mn X) 24 #[vl,vr] ρ σ (fun w ρ' σ'=>ρ' = ρ∧σ' = σ∧w = (iV (Cw l rs))):=by
 refine Bh (n:=17) (args:=[vl,vr]) [4] Tryd.func24 rfl rfl rfl rfl fun Q hret hnor=>?_
 refine w_q rfl rfl fun K1 k1=>?_
 refine Ae rfl (Eb (v:=vl) rfl fun k2=>?_)
 refine Bb (a:=l) rl fun ρ2 l2 r2=>?_
 replace rl:=Asa l2 rl
 replace rr:=Asa l2 rr
 refine l_A (iV (0)) rfl rfl ?_
 apply Ac
 apply k1
 refine Ai fun K3 k3=>?_
 refine w_q rfl rfl fun K4 k4=>?_
 refine Ak rfl (Ax Aaj rfl r2) fun v5 r5=>?_
 refine l_M vr rfl rfl ?_
 refine Ae rfl (Bn (vs:=[v5,vr]) (v:=(iV (Hw l rs))) (c_refcheckResults r5 rr) Tryd.func66 rfl rfl ⟨rfl,rfl,trivial⟩ ?_)
 refine l_A (iV (Hw l rs)) rfl rfl ?_
 apply Ac
 apply k4
 refine w_q rfl rfl fun K6 k6=>?_
 refine l_M (iV (Hw l rs)) rfl rfl ?_
 refine Aa rfl (Dg (p:=Hw l rs) (q:=0) rfl rfl) ?_
 apply Ac
 apply k6
 refine As (t:=Hw l rs != 0) rfl (fun b7=>?_) (fun b7=>?_)
 ·have q7:=Mb b7
  refine w_q rfl rfl fun K8 k8=>?_
  refine l_M (iV (Hw l rs)) rfl rfl ?_
  refine l_A (iV (Hw l rs)) rfl rfl ?_
  apply Ac
  apply k8
  refine Aj (Arw l2) ?_
  refine Aq ?_
  refine hret _ _ _ ?_
  refine ⟨rfl,rfl,Eq.trans (b:=(iV (Hw l rs))) rfl ?_⟩
  rw [Cw,Rx q7]
 have q7:=Jh b7
 refine Al ?_
 apply k3
 refine Ai fun K9 k9=>?_
 refine w_q rfl rfl fun K10 k10=>?_
 refine Ak rfl (Ax Aaj rfl r2) fun v11 r11=>?_
 refine l_M vr rfl rfl ?_
 obtain ⟨ok,hrs,hr8⟩:=Aou q7
 refine Ae rfl (Cm (vs:=[v11,vr]) (c_refRemain r11 rr ok hrs) Tryd.func55 rfl rfl ⟨rfl,rfl,trivial⟩ fun v12 ρ12 σ12 hc12=>?_)
 obtain ⟨l12,s12,r12⟩:=hc12
 replace s12:=s12.symm; subst s12
 replace rr:=Asa l12 rr
 replace r2:=Arv l12 r2
 replace r11:=Asa l12 r11
 have g13:=Val.len r12
 refine Aa rfl (Ce (el:=3) Tryd.underlying30 rfl r12) ?_
 refine Aa rfl (Ek (p:=(((Bw (Ba l rs)).length:Nat):Int)) (q:=0) rfl rfl) ?_
 apply Ac
 apply k10
 refine As (t:=(((Bw (Ba l rs)).length:Nat):Int) == 0) rfl (fun b14=>?_) (fun b14=>?_)
 ·have q14:=Jo b14
  refine w_q rfl rfl fun K15 k15=>?_
  refine l_A (iV (9)) rfl rfl ?_
  apply Ac
  apply k15
  refine Aj (Arw (Arz l2 l12)) ?_
  refine Aq ?_
  refine hret _ _ _ ?_
  refine ⟨rfl,rfl,Eq.trans (b:=(iV (9))) rfl ?_⟩
  rw [Cw,Gt q7,if_pos q14]
 have q14:=La b14
 refine Al ?_
 apply k9
 refine w_q rfl rfl fun K16 k16=>?_
 refine l_A (iV (0)) rfl rfl ?_
 apply Ac
 apply k16
 refine Aj (Arw (Arz l2 l12)) ?_
 refine Aq ?_
 refine hret _ _ _ ?_
 refine ⟨rfl,rfl,Eq.trans (b:=(iV (0))) rfl ?_⟩
 rw [Cw,Gt q7,if_neg q14]
end Go.Proofs.YtoefdnbaklajeaaDoor

namespace Go.Proofs.YtoefdnbaklajeaaDoor
open Go
set_option maxRecDepth 100000 in
theorem c_Great {mn:Bool} {X:Frame→List Frame→Ro→Own→Cy→Prop} {ρ:Ro} {σ:Own} {l:Lab} {vl:Value} (rl:Val ρ vl l):CallsH (CX mn X) 23 #[vl] ρ σ (fun w ρ' σ'=>ρ' = ρ∧σ' = σ∧∃ b,w = .bool b):=by
 refine Bh (n:=57) (args:=[vl]) [2] Tryd.func23 rfl rfl rfl rfl fun Q hret hnor=>?_
 refine w_q rfl rfl fun K1 k1=>?_
 refine Ae rfl (Eb (v:=vl) rfl fun k2=>?_)
 refine Bb (a:=l) rl fun ρ2 l2 r2=>?_
 replace rl:=Asa l2 rl
 refine l_A (.bool (false)) rfl rfl ?_
 apply Ac
 apply k1
 refine Ai fun K3 k3=>?_
 refine w_q rfl rfl fun K4 k4=>?_
 refine Ak rfl (Ay Lab.f_kinds Tryd.underlying40 rfl rfl Hu (by decide) rfl r2) fun v5 r5=>?_
 refine Ak rfl (Ax Hu rfl r5) fun v6 r6=>?_
 have g7:=Val.len r6
 refine Aa rfl (Ce (el:=9) Tryd.underlying22 rfl r6) ?_
 refine Aa rfl (Gk (p:=((l.kinds.length:Nat):Int)) (q:=40) rfl rfl) ?_
 refine l_M (.bool (decide (((l.kinds.length:Nat):Int) > 40))) rfl rfl ?_
 refine Cn (decide (((l.kinds.length:Nat):Int) > 40)) (fun b8=>?_) (fun b8=>?_)
 ·have q8:=of_decide_eq_true b8
  refine Ap (Bl rfl rfl rfl b8) ?_
  refine Ap (Bl rfl rfl rfl b8) ?_
  refine Ap (Bl rfl rfl rfl b8) ?_
  refine Ap (Bl rfl rfl rfl b8) ?_
  refine Aa rfl (Bt rfl b8 (v:=(.bool (true))) rfl) ?_
  apply Ac
  apply k4
  refine Co rfl rfl ?_
  refine w_q rfl rfl fun K9 k9=>?_
  refine l_A (.bool (true)) rfl rfl ?_
  apply Ac
  apply k9
  refine Aj (Arw l2) ?_
  refine Aq ?_
  refine hret _ _ _ ?_
  exact ⟨rfl,rfl,_,rfl⟩
 have q8:=of_decide_eq_false b8
 refine Ak (Ar rfl rfl rfl b8) (Ay Lab.f_tests Tryd.underlying40 rfl rfl Vd (by decide) rfl r2) fun v10 r10=>?_
 refine Ak (Ar rfl rfl rfl b8) (Ax Vd rfl r10) fun v11 r11=>?_
 have g12:=Val.len r11
 refine Aa (Ar rfl rfl rfl b8) (Ce (el:=108) Tryd.underlying38 rfl r11) ?_
 refine Aa (Ar rfl rfl rfl b8) (Gk (p:=((l.tests.length:Nat):Int)) (q:=40) rfl rfl) ?_
 refine Aa rfl (Bm rfl b8 (v:=(.bool (decide (((l.tests.length:Nat):Int) > 40)))) rfl) ?_
 apply Ac
 apply k4
 refine As (t:=decide (((l.tests.length:Nat):Int) > 40)) rfl (fun b13=>?_) (fun b13=>?_)
 ·have q13:=of_decide_eq_true b13
  refine w_q rfl rfl fun K14 k14=>?_
  refine l_A (.bool (true)) rfl rfl ?_
  apply Ac
  apply k14
  refine Aj (Arw l2) ?_
  refine Aq ?_
  refine hret _ _ _ ?_
  exact ⟨rfl,rfl,_,rfl⟩
 have q13:=of_decide_eq_false b13
 refine Al ?_
 apply k3
 refine w_q rfl rfl fun K15 k15=>?_
 refine l_A (iV (0)) rfl rfl ?_
 apply Ac
 apply k15
 refine Ai fun K16 k16=>?_
 refine w_q rfl rfl fun K17 k17=>?_
 refine l_A (iV (0)) rfl rfl ?_
 apply Ac
 apply k17
 refine Ao ?_
 refine Cc (fun mm ee dd ρ' σ'=>∃ (i:Nat) (n:Int),(l.kinds.length - i) = mm∧[] = dd∧ρ2 = ρ'∧σ = σ'∧ee 1 = (.pointer (some ⟨k2,0,none⟩))∧ee 3 = (iV (n))∧ee 4 = (iV ((i:Int)))∧(i ≤ l.kinds.length)∧True) (m:=_) ⟨0,0,rfl,rfl,rfl,rfl,rfl,rfl,rfl,(Nat.zero_le _),trivial⟩ ?_
 rintro m18 e18 _ _ _ ⟨i,n,rfl,rfl,rfl,rfl,h18_1,h18_3,h18_4,p18_0,_⟩
 refine Ai fun K19 k19=>?_
 refine w_q rfl rfl fun K20 k20=>?_
 refine Aa rfl (Ah (v:=(iV ((i:Int)))) h18_4) ?_
 refine Ak rfl (Ay Lab.f_kinds Tryd.underlying40 rfl rfl Hu (by decide) h18_1 r2) fun v21 r21=>?_
 refine Ak rfl (Ax Hu rfl r21) fun v22 r22=>?_
 have g23:=Val.len r22
 refine Aa rfl (Ce (el:=9) Tryd.underlying22 rfl r22) ?_
 refine Aa rfl (Da (p:=(i:Int)) (q:=((l.kinds.length:Nat):Int)) rfl rfl) ?_
 apply Ac
 apply k20
 refine As (t:=decide ((i:Int) < ((l.kinds.length:Nat):Int))) rfl (fun b24=>?_) (fun b24=>?_)
 ·have q24:=of_decide_eq_true b24
  refine Al ?_
  apply k19
  refine Ai fun K25 k25=>?_
  refine Ao ?_
  refine Ag rfl rfl ?_
  refine Aa rfl (Ah (v:=(iV (n))) h18_3) ?_
  refine Ak rfl (Ay Lab.f_kinds Tryd.underlying40 rfl rfl Hu (by decide) h18_1 r2) fun v26 r26=>?_
  refine Ak rfl (Ax Hu rfl r26) fun v27 r27=>?_
  refine Aa rfl (Ah (v:=(iV ((i:Int)))) h18_4) ?_
  obtain ⟨a29,ha29⟩:=Ed (xs:=l.kinds) (i:=i) (by omega)
  refine Ak rfl (Ci i Tryd.underlying22 ty9 rfl r27 (q:=(i:Int)) rfl rfl ha29) fun v28 r28=>?_
  have g30:=At.slen r28
  refine Aa rfl (Oz ty9 rfl r28) ?_
  refine Aa rfl (Afb Tryd.underlying9 (s:=a29) rfl) ?_
  refine Aa rfl (Br (p:=n) (q:=((a29.size:Nat):Int)) rfl rfl (z:=(IntKind.i64.wrap (n + ((a29.size:Nat):Int)))) rfl) ?_
  refine l_A (iV ((IntKind.i64.wrap (n + ((a29.size:Nat):Int))))) rfl rfl ?_
  apply Ac
  apply k25
  refine Ag rfl rfl ?_
  refine Aa rfl (Ah (v:=(iV ((i:Int)))) h18_4) ?_
  refine Aa rfl (Br (p:=(i:Int)) (q:=1) rfl rfl (z:=(((i + 1):Nat):Int)) (Bo (by first | rfl | omega | (push_cast; rfl)) (by omega) (by omega))) ?_
  refine l_A (iV ((((i + 1):Nat):Int))) rfl rfl ?_
  apply Ac
  refine ⟨_,?_,((i + 1)),((IntKind.i64.wrap (n + ((a29.size:Nat):Int)))),rfl,rfl,rfl,rfl,h18_1,rfl,rfl,(by omega),trivial⟩
  omega
 have q24:=of_decide_eq_false b24
 refine Bx ?_
 apply k16
 refine Ai fun K31 k31=>?_
 refine w_q rfl rfl fun K32 k32=>?_
 refine l_A (iV (0)) rfl rfl ?_
 apply Ac
 apply k32
 refine Ao ?_
 refine Cc (fun mm ee dd ρ' σ'=>∃ (i:Nat) (n:Int),(l.tests.length - i) = mm∧[] = dd∧ρ2 = ρ'∧σ = σ'∧ee 1 = (.pointer (some ⟨k2,0,none⟩))∧ee 3 = (iV (n))∧ee 5 = (iV ((i:Int)))∧(i ≤ l.tests.length)∧True) (m:=_) ⟨0,n,rfl,rfl,rfl,rfl,h18_1,h18_3,rfl,(Nat.zero_le _),trivial⟩ ?_
 rintro m33 e33 _ _ _ ⟨i,n,rfl,rfl,rfl,rfl,h33_1,h33_3,h33_5,p33_0,_⟩
 refine Ai fun K34 k34=>?_
 refine w_q rfl rfl fun K35 k35=>?_
 refine Aa rfl (Ah (v:=(iV ((i:Int)))) h33_5) ?_
 refine Ak rfl (Ay Lab.f_tests Tryd.underlying40 rfl rfl Vd (by decide) h33_1 r2) fun v36 r36=>?_
 refine Ak rfl (Ax Vd rfl r36) fun v37 r37=>?_
 have g38:=Val.len r37
 refine Aa rfl (Ce (el:=108) Tryd.underlying38 rfl r37) ?_
 refine Aa rfl (Da (p:=(i:Int)) (q:=((l.tests.length:Nat):Int)) rfl rfl) ?_
 apply Ac
 apply k35
 refine As (t:=decide ((i:Int) < ((l.tests.length:Nat):Int))) rfl (fun b39=>?_) (fun b39=>?_)
 ·have q39:=of_decide_eq_true b39
  refine Al ?_
  apply k34
  refine Ai fun K40 k40=>?_
  refine Ao ?_
  refine Ai fun K41 k41=>?_
  refine w_q rfl rfl fun K42 k42=>?_
  refine Ak rfl (Ay Lab.f_tests Tryd.underlying40 rfl rfl Vd (by decide) h33_1 r2) fun v43 r43=>?_
  refine Ak rfl (Ax Vd rfl r43) fun v44 r44=>?_
  refine Aa rfl (Ah (v:=(iV ((i:Int)))) h33_5) ?_
  obtain ⟨a46,ha46⟩:=Ed (xs:=l.tests) (i:=i) (by omega)
  refine Ak rfl (Ci i Tryd.underlying38 Td rfl r44 (q:=(i:Int)) rfl rfl ha46) fun v45 r45=>?_
  refine Ak rfl (Ay FTest.f_sees Tryd.underlying108 rfl rfl Aex (by decide) rfl r45) fun v47 r47=>?_
  refine Ak rfl (Ax Aex rfl r47) fun v48 r48=>?_
  have g49:=Val.len r48
  refine Aa rfl (Ce (el:=53) Tryd.underlying46 rfl r48) ?_
  refine Aa rfl (Gk (p:=((a46.sees.length:Nat):Int)) (q:=40) rfl rfl) ?_
  apply Ac
  apply k42
  refine As (t:=decide (((a46.sees.length:Nat):Int) > 40)) rfl (fun b50=>?_) (fun b50=>?_)
  ·have q50:=of_decide_eq_true b50
   refine w_q rfl rfl fun K51 k51=>?_
   refine l_A (.bool (true)) rfl rfl ?_
   apply Ac
   apply k51
   refine Aj (Arw l2) ?_
   refine Aq ?_
   refine hret _ _ _ ?_
   exact ⟨rfl,rfl,_,rfl⟩
  have q50:=of_decide_eq_false b50
  refine Al ?_
  apply k41
  refine Ag rfl rfl ?_
  refine Aa rfl (Ah (v:=(iV (n))) h33_3) ?_
  refine Ak rfl (Ay Lab.f_tests Tryd.underlying40 rfl rfl Vd (by decide) h33_1 r2) fun v52 r52=>?_
  refine Ak rfl (Ax Vd rfl r52) fun v53 r53=>?_
  refine Aa rfl (Ah (v:=(iV ((i:Int)))) h33_5) ?_
  refine Ak rfl (Ci i Tryd.underlying38 Td rfl r53 (q:=(i:Int)) rfl rfl ha46) fun v54 r54=>?_
  refine Ak rfl (Ay FTest.f_name Tryd.underlying108 rfl rfl ty9 (by decide) rfl r54) fun v55 r55=>?_
  have g56:=At.slen r55
  refine Aa rfl (Oz ty9 rfl r55) ?_
  refine Aa rfl (Afb Tryd.underlying9 (s:=a46.name) rfl) ?_
  refine Aa rfl (Br (p:=n) (q:=((a46.name.size:Nat):Int)) rfl rfl (z:=(IntKind.i64.wrap (n + ((a46.name.size:Nat):Int)))) rfl) ?_
  refine l_A (iV ((IntKind.i64.wrap (n + ((a46.name.size:Nat):Int))))) rfl rfl ?_
  apply Ac
  apply k40
  refine Ag rfl rfl ?_
  refine Aa rfl (Ah (v:=(iV ((i:Int)))) h33_5) ?_
  refine Aa rfl (Br (p:=(i:Int)) (q:=1) rfl rfl (z:=(((i + 1):Nat):Int)) (Bo (by first | rfl | omega | (push_cast; rfl)) (by omega) (by omega))) ?_
  refine l_A (iV ((((i + 1):Nat):Int))) rfl rfl ?_
  apply Ac
  refine ⟨_,?_,((i + 1)),((IntKind.i64.wrap (n + ((a46.name.size:Nat):Int)))),rfl,rfl,rfl,rfl,h33_1,rfl,rfl,(by omega),trivial⟩
  omega
 have q39:=of_decide_eq_false b39
 refine Bx ?_
 apply k31
 refine w_q rfl rfl fun K57 k57=>?_
 refine Aa rfl (Ah (v:=(iV (n))) h33_3) ?_
 refine Aa rfl (Gk (p:=n) (q:=1000) rfl rfl) ?_
 refine l_A (.bool (decide (n > 1000))) rfl rfl ?_
 apply Ac
 apply k57
 refine Aj (Arw l2) ?_
 refine Aq ?_
 refine hret _ _ _ ?_
 exact ⟨rfl,rfl,_,rfl⟩
end Go.Proofs.YtoefdnbaklajeaaDoor

namespace Go.Proofs.YtoefdnbaklajeaaDoor
open Go
theorem bit_z1 {s t:Nat} (h:((((s >>> t) % 2:Nat):Int) == 0) = true):Cu s t = false:=by
  have h1:(((s >>> t) % 2:Nat):Int) = 0:=eq_of_beq h
  have h2:(s >>> t) % 2 = 0:=by omega
  simp [Cu,h2]
theorem bit_z0 {s t:Nat} (h:((((s >>> t) % 2:Nat):Int) == 0) = false):Cu s t = true:=by
  have h1:(((s >>> t) % 2:Nat):Int) ≠ 0:=Arm h
  have h2:(s >>> t) % 2 = 1:=by omega
  simp [Cu,h2]
theorem encR_min {a b:Option Nat}:Jt (Abr a b) = if Jt b ≥ 0∧(Jt a < 0∨Jt b < Jt a) then Jt b else Jt a:=by
  cases a with
  | none =>
    cases b with
    | none=>simp [Abr,Jt]
    | some b=>simp [Abr,Jt]
  | some a =>
    cases b with
    | none=>simp [Abr,Jt]
    | some b =>
      show Jt (some (min a b)) = _
      rw [Ajx,Ajx,Ajx]
      split <;> omega
theorem encR_max {a b:Option Nat}:Jt (Akt a b) = if Jt a < 0∨Jt b < 0 then -1 else 1 + max (Jt a) (Jt b):=by
  cases a with
  | none=>simp [Akt,Jt]
  | some a =>
    cases b with
    | none=>simp [Akt,Jt]
    | some b =>
      show Jt (some (1 + max a b)) = _
      rw [Ajx,Ajx,Ajx]
      rw [if_neg (by omega)]; omega
theorem encR_le {l:Lab} {sets:List Nat} {left:Nat} (hl:left < 32):-1 ≤ Jt (dep l sets left)∧Jt (dep l sets left) ≤ 5:=by
  cases h:dep l sets left with
  | none=>simp [Jt]
  | some d=>have:=Nu hl h; have:=Lg hl; simp only [Jt]; omega
def endsR (l:Lab) (tree:List FNode):Nat→Int→List Nat→Bool
  | 0,_,sets=>Dz (Bw sets)
  | f + 1,a,sets=>if a < 0∨a ≥ (tree.length:Int)∨sets = [] then Dz (Bw sets) else match tree[a.toNat]? with
      | some n=>endsR l tree f n.found (Au l sets ⟨n.test,true⟩) && endsR l tree f n.not (Au l sets ⟨n.test,false⟩)
      | none=>false
def endsF (l:Lab) (tree:List FNode) (a:Int) (sets:List Nat):Bool:=endsR l tree (tree.length - a.toNat) a sets
structure NodeOk (l:Lab) (tree:List FNode):Prop where
  test:∀ (i:Nat) (n:FNode),tree[i]? = some n→0 ≤ n.test∧n.test < (l.tests.length:Int)
  found:∀ (i:Nat) (n:FNode),tree[i]? = some n→n.found = -1∨((i:Int) + 1 ≤ n.found∧n.found < (tree.length:Int))
  not:∀ (i:Nat) (n:FNode),tree[i]? = some n→n.not = -1∨((i:Int) + 1 ≤ n.not∧n.not < (tree.length:Int))
theorem treeF_0 {l:Lab} {tree:List FNode} (h:treeF l tree = 0):NodeOk l tree:=by
  unfold treeF at h
  rw [Fz] at h
  have key:∀ (i:Nat) (n:FNode),tree[i]? = some n→(0 ≤ n.test∧n.test < (l.tests.length:Int))∧(n.found = -1∨((i:Int) + 1 ≤ n.found∧n.found < (tree.length:Int)))∧(n.not = -1∨((i:Int) + 1 ≤ n.not∧n.not < (tree.length:Int))):=fun i n hn=>by
    have h1:=h i (List.getElem?_eq_some_iff.1 hn).1
    simp only [nodeAt,hn] at h1
    split at h1
    · rename_i hin
      have h2:=Ge.1 hin
      split at h1
      · cases h1
      · rename_i hc
        simp only [Bool.or_eq_true,Bool.and_eq_true,bne_iff_ne,ne_eq,Bool.not_eq_true',not_or,not_and,Bool.not_eq_false] at hc
        refine ⟨by omega,?_,?_⟩
        · by_cases e:n.found = -1
          · exact .inl e
          · have:=Ge.1 (hc.1 e); push_cast at this; exact .inr (by omega)
        · by_cases e:n.not = -1
          · exact .inl e
          · have:=Ge.1 (hc.2 e); push_cast at this; exact .inr (by omega)
    · cases h1
  exact ⟨fun i n hn=>(key i n hn).1,fun i n hn=>(key i n hn).2.1,fun i n hn=>(key i n hn).2.2⟩
theorem endsR_fuel {l:Lab} {tree:List FNode} (ok:NodeOk l tree):∀ (f g:Nat) (a:Int) (sets:List Nat),tree.length - a.toNat ≤ f→tree.length - a.toNat ≤ g→endsR l tree f a sets = endsR l tree g a sets:=by
  intro f
  induction f with
  | zero =>
    intro g a sets hf hg
    cases g with
    | zero=>rfl
    | succ g =>
      simp only [endsR]
      rw [if_pos (by omega)]
  | succ f ih =>
    intro g a sets hf hg
    cases g with
    | zero =>
      simp only [endsR]
      rw [if_pos (by omega)]
    | succ g =>
      simp only [endsR]
      split
      · rfl
      · rename_i hc
        rw [not_or,not_or] at hc
        cases hn:tree[a.toNat]? with
        | none=>rfl
        | some n =>
          simp only
          have h1:=ok.found _ n hn
          have h2:=ok.not _ n hn
          have hlt:=(List.getElem?_eq_some_iff.1 hn).1
          have key:∀ c:Int,(c = -1∨((a.toNat:Int) + 1 ≤ c∧c < (tree.length:Int)))→∀ s,endsR l tree f c s = endsR l tree g c s:=fun c hc' s=>by
            rcases hc' with rfl | hc'
            · have e:∀ k,endsR l tree k (-1) s = Dz (Bw s):=fun k=>by cases k <;> simp [endsR]
              rw [e,e]
            · exact ih g c s (by omega) (by omega)
          rw [key _ h1,key _ h2]
theorem ends_end {l:Lab} {tree:List FNode} {a:Int} {sets:List Nat} (h:a < 0∨a ≥ (tree.length:Int)∨sets = []):endsF l tree a sets = Dz (Bw sets):=by
  unfold endsF
  cases tree.length - a.toNat with
  | zero=>rfl
  | succ f=>simp only [endsR]; rw [if_pos h]
theorem ends_step {l:Lab} {tree:List FNode} (ok:NodeOk l tree) {a:Int} {sets:List Nat} {n:FNode} (h:¬ (a < 0∨a ≥ (tree.length:Int)∨sets = [])) (hn:tree[a.toNat]? = some n) :
    endsF l tree a sets = (endsF l tree n.found (Au l sets ⟨n.test,true⟩) && endsF l tree n.not (Au l sets ⟨n.test,false⟩)):=by
  have hlt:=(List.getElem?_eq_some_iff.1 hn).1
  have h1:=ok.found _ n hn
  have h2:=ok.not _ n hn
  obtain ⟨f,hf⟩:∃ f,tree.length - a.toNat = f + 1:=⟨tree.length - a.toNat - 1,by omega⟩
  have key:∀ c:Int,(c = -1∨((a.toNat:Int) + 1 ≤ c∧c < (tree.length:Int)))→∀ s,endsR l tree f c s = endsF l tree c s:=fun c hc' s=>by
    rcases hc' with rfl | hc'
    · have e:∀ k,endsR l tree k (-1) s = Dz (Bw s):=fun k=>by cases k <;> simp [endsR]
      unfold endsF
      rw [e,e]
    · exact endsR_fuel ok f _ c s (by omega) (Nat.le_refl _)
  unfold endsF
  rw [hf]
  simp only [endsR]
  rw [if_neg h,hn]
  simp only
  rw [key _ h1,key _ h2]
  rfl
def setlF (l:Lab) (rs:List Found) (tree:List FNode):Int:=orF (Cw l rs) (treeF l tree)
def setlB (l:Lab) (rs:List Found) (tree:List FNode):Bool:=if setlF l rs tree = 0 then endsF l tree 0 (Ba l rs) else false
end Go.Proofs.YtoefdnbaklajeaaDoor

namespace Go.Proofs.YtoefdnbaklajeaaDoor
open Go
set_option maxRecDepth 100000 in
theorem c_refwith {mn:Bool} {X:Frame→List Frame→Ro→Own→Cy→Prop} {ρ:Ro} {σ:Own} {l:Lab} {vl vs:Value} {sets:List Nat} {left t:Nat} (hdep:∀ {ρ:Ro} {σ:Own} {vl vs:Value} {sets:List Nat} {m:Nat},m < left→Val ρ vl l→Val ρ vs (Bw sets)→sets.Sublist (List.range 16)→CallsH (CX mn X) 102 #[vl,vs,iV (m:Int)] ρ σ (fun w ρ' σ'=>ρ' = ρ∧σ' = σ∧w = iV (Jt (dep l sets m)))) (rl:Val ρ vl l) (rs:Val ρ vs (Bw sets)) (ok:LabOk l) (hs:sets.Sublist (List.range 16)) (hleft:left < 32) (ht:t < l.tests.length) (hb:Cu left t = true):CallsH (CX mn X) 125 #[vl,vs,(iV ((left:Int))),(iV ((t:Int)))] ρ σ (fun w ρ' σ'=>ρ' = ρ∧σ' = σ∧w = (iV (Jt (Gr l sets left t)))):=by
 obtain ⟨hle,hpop⟩:=Og hleft hb
 have h1t:1 ≤ 1 <<< t:=by rw [Nat.one_shiftLeft]; exact Nat.one_le_two_pow
 have ht5:=Od hleft hb
 have he1:=encR_le (l:=l) (sets:=Au l sets (⟨(t:Int),true⟩:Found)) (left:=left - 1 <<< t) (by omega)
 have he2:=encR_le (l:=l) (sets:=Au l sets (⟨(t:Int),false⟩:Found)) (left:=left - 1 <<< t) (by omega)
 refine Bh (n:=42) (args:=[vl,vs,(iV ((left:Int))),(iV ((t:Int)))]) [8] Tryd.func125 rfl rfl rfl rfl fun Q hret hnor=>?_
 refine w_q rfl rfl fun K1 k1=>?_
 refine Ae rfl (Eb (v:=vl) rfl fun k2=>?_)
 refine Bb (a:=l) rl fun ρ2 l2 r2=>?_
 replace rl:=Asa l2 rl
 replace rs:=Asa l2 rs
 refine l_A (iV (0)) rfl rfl ?_
 apply Ac
 apply k1
 refine w_q rfl rfl fun K3 k3=>?_
 refine l_M (iV ((left:Int))) rfl rfl ?_
 refine l_M (iV ((t:Int))) rfl rfl ?_
 refine Aa rfl (Ly (p:=1) (q:=t) rfl rfl rfl (by omega) (z:=(((1 <<< t):Nat):Int)) (Bo rfl (by omega) (by omega))) ?_
 refine Aa rfl (Oq (p:=(left:Int)) (q:=(((1 <<< t):Nat):Int)) rfl rfl (z:=(((left - (1 <<< t)):Nat):Int)) (Bo (by omega) (by omega) (by omega))) ?_
 refine l_A (iV ((((left - (1 <<< t)):Nat):Int))) rfl rfl ?_
 apply Ac
 apply k3
 refine Ai fun K4 k4=>?_
 refine Dc [0,1,2,3,4,5,6,7,8] (by kernel_rfl) rfl rfl ?_
 refine Cd (i:=0) Aov rfl (by kernel_rfl) rfl Ary rfl (Ax Aaj rfl r2) fun v5 r5=>?_
 refine Cd (i:=1) Aof rfl (by kernel_rfl) rfl Ary rfl (Ax Aaj rfl r2) fun v6 r6=>?_
 refine Be (i:=2) Apd rfl (by kernel_rfl) rfl Ary rfl (Ah (v:=vs) rfl) ?_
 refine Be (i:=3) Anf rfl (by kernel_rfl) rfl Ary rfl (Ah (v:=(iV ((t:Int)))) rfl) ?_
 have r7:Val ρ2 (.agg #[(iV ((t:Int))),(.bool (true))]) (⟨(t:Int),true⟩:Found):=Found.shut (x:=(⟨(t:Int),true⟩:Found)) (show I64 ((t:Int)) from by constructor <;> omega)
 refine Be (i:=4) Aon rfl (by kernel_rfl) rfl Ary rfl (Dm (ns:=[1,1]) (vs:=[(0,(iV ((t:Int)))),(1,(.bool (true)))]) (zc:=Alq) (cs:=[(iV ((t:Int))),(.bool (true))]) Tryd.underlying43 Ahd rfl ⟨⟨_,Ab Tryd.typeInfo3,rfl⟩,⟨_,Ab Tryd.typeInfo4,rfl⟩,trivial⟩ (EvB.map ⟨⟨rfl,rfl⟩,⟨rfl,rfl⟩,trivial⟩) ((Bd (cs:=[(iV ((t:Int)))]) rfl rfl (Nat.le_of_ble_eq_true rfl)).trans ((Bd (cs:=[(.bool (true))]) rfl rfl (Nat.le_of_ble_eq_true rfl)).trans rfl))) ?_
 refine Be (i:=6) [o1,o1,o1,o1,o1,o0,o1,o0,o0] rfl (by kernel_rfl) rfl Ary rfl (Ah (v:=(iV ((((left - (1 <<< t)):Nat):Int)))) rfl) ?_
 have ha8:=Abx hs
 refine Dj (i:=5) Aow rfl (by kernel_rfl) rfl rfl (Cm (vs:=[v6,vs,(.agg #[(iV ((t:Int))),(.bool (true))])]) (c_refafter (sets:=sets) r6 rs r7 (show 0 ≤ (t:Int)∧(t:Int) < (l.tests.length:Int) by omega) ha8.1 ha8.2) Tryd.func108 rfl rfl ⟨rfl,rfl,rfl,trivial⟩ fun v9 ρ9 σ9 hc9=>?_)
 obtain ⟨l9,s9,r9⟩:=hc9
 replace s9:=s9.symm; subst s9
 replace rs:=Asa l9 rs
 replace r2:=Arv l9 r2
 replace r5:=Asa l9 r5
 replace r6:=Asa l9 r6
 replace r7:=Asa l9 r7
 refine ⟨l9,?_⟩
 refine Dj (i:=7) Anz rfl (by kernel_rfl) rfl rfl (Bn (vs:=[v5,v9,(iV ((((left - (1 <<< t)):Nat):Int)))]) (v:=(iV (Jt (dep l ((Au l sets ((⟨(t:Int),true⟩:Found)))) ((left - (1 <<< t))))))) (hdep (sets:=(Au l sets ((⟨(t:Int),true⟩:Found)))) (m:=(left - (1 <<< t))) (by omega) r5 r9 (Abt hs)) Tryd.func102 rfl rfl ⟨rfl,rfl,rfl,trivial⟩ ⟨l9,?_⟩)
 refine Bg (i:=8) Anb rfl (by kernel_rfl) rfl l9 rfl (Cp (v:=(iV (Jt (dep l ((Au l sets ((⟨(t:Int),true⟩:Found)))) ((left - (1 <<< t))))))) rfl) ?_
 refine Ec rfl ?_
 apply k4
 refine Ai fun K10 k10=>?_
 refine Dc [0,1,2,3,4,5,6,7,8] (by kernel_rfl) rfl rfl ?_
 refine Cd (i:=0) Aov rfl (by kernel_rfl) rfl Ary rfl (Ax Aaj rfl r2) fun v11 r11=>?_
 refine Cd (i:=1) Aof rfl (by kernel_rfl) rfl Ary rfl (Ax Aaj rfl r2) fun v12 r12=>?_
 refine Be (i:=2) Apd rfl (by kernel_rfl) rfl Ary rfl (Ah (v:=vs) rfl) ?_
 refine Be (i:=3) Anf rfl (by kernel_rfl) rfl Ary rfl (Ah (v:=(iV ((t:Int)))) rfl) ?_
 have r13:Val ρ9 (.agg #[(iV ((t:Int))),(.bool (false))]) (⟨(t:Int),false⟩:Found):=Found.shut (x:=(⟨(t:Int),false⟩:Found)) (show I64 ((t:Int)) from by constructor <;> omega)
 refine Be (i:=4) Aon rfl (by kernel_rfl) rfl Ary rfl (Dm (ns:=[1,1]) (vs:=[(0,(iV ((t:Int))))]) (zc:=Alq) (cs:=[(iV ((t:Int))),(.bool (false))]) Tryd.underlying43 Ahd rfl ⟨⟨_,Ab Tryd.typeInfo3,rfl⟩,⟨_,Ab Tryd.typeInfo4,rfl⟩,trivial⟩ (EvB.map ⟨⟨rfl,rfl⟩,trivial⟩) ((Bd (cs:=[(iV ((t:Int)))]) rfl rfl (Nat.le_of_ble_eq_true rfl)).trans rfl)) ?_
 refine Be (i:=6) [o1,o1,o1,o1,o1,o0,o1,o0,o0] rfl (by kernel_rfl) rfl Ary rfl (Ah (v:=(iV ((((left - (1 <<< t)):Nat):Int)))) rfl) ?_
 have ha14:=Abx hs
 refine Dj (i:=5) Aow rfl (by kernel_rfl) rfl rfl (Cm (vs:=[v12,vs,(.agg #[(iV ((t:Int))),(.bool (false))])]) (c_refafter (sets:=sets) r12 rs r13 (show 0 ≤ (t:Int)∧(t:Int) < (l.tests.length:Int) by omega) ha14.1 ha14.2) Tryd.func108 rfl rfl ⟨rfl,rfl,rfl,trivial⟩ fun v15 ρ15 σ15 hc15=>?_)
 obtain ⟨l15,s15,r15⟩:=hc15
 replace s15:=s15.symm; subst s15
 replace rs:=Asa l15 rs
 replace r2:=Arv l15 r2
 replace r11:=Asa l15 r11
 replace r12:=Asa l15 r12
 replace r13:=Asa l15 r13
 refine ⟨l15,?_⟩
 refine Dj (i:=7) Anz rfl (by kernel_rfl) rfl rfl (Bn (vs:=[v11,v15,(iV ((((left - (1 <<< t)):Nat):Int)))]) (v:=(iV (Jt (dep l ((Au l sets ((⟨(t:Int),false⟩:Found)))) ((left - (1 <<< t))))))) (hdep (sets:=(Au l sets ((⟨(t:Int),false⟩:Found)))) (m:=(left - (1 <<< t))) (by omega) r11 r15 (Abt hs)) Tryd.func102 rfl rfl ⟨rfl,rfl,rfl,trivial⟩ ⟨l15,?_⟩)
 refine Bg (i:=8) Anb rfl (by kernel_rfl) rfl l15 rfl (Cp (v:=(iV (Jt (dep l ((Au l sets ((⟨(t:Int),false⟩:Found)))) ((left - (1 <<< t))))))) rfl) ?_
 refine Ec rfl ?_
 apply k10
 refine Ai fun K16 k16=>?_
 refine w_q rfl rfl fun K17 k17=>?_
 refine l_M (iV (Jt (dep l ((Au l sets ((⟨(t:Int),true⟩:Found)))) ((left - (1 <<< t)))))) rfl rfl ?_
 refine Aa rfl (Da (p:=Jt (dep l ((Au l sets ((⟨(t:Int),true⟩:Found)))) ((left - (1 <<< t))))) (q:=0) rfl rfl) ?_
 refine l_M (.bool (decide (Jt (dep l ((Au l sets ((⟨(t:Int),true⟩:Found)))) ((left - (1 <<< t)))) < 0))) rfl rfl ?_
 refine Cn (decide (Jt (dep l ((Au l sets ((⟨(t:Int),true⟩:Found)))) ((left - (1 <<< t)))) < 0)) (fun b18=>?_) (fun b18=>?_)
 ·have q18:=of_decide_eq_true b18
  refine Ap (Bl rfl rfl rfl b18) ?_
  refine Ap (Bl rfl rfl rfl b18) ?_
  refine Aa rfl (Bt rfl b18 (v:=(.bool (true))) rfl) ?_
  apply Ac
  apply k17
  refine Co rfl rfl ?_
  refine w_q rfl rfl fun K19 k19=>?_
  refine l_A (iV ((-1))) rfl rfl ?_
  apply Ac
  apply k19
  refine Aj (Arw (Arz (Arz l2 l9) l15)) ?_
  refine Aq ?_
  refine hret _ _ _ ?_
  refine ⟨rfl,rfl,Eq.trans (b:=(iV ((-1)))) rfl ?_⟩
  have hw:Gr l sets left t = Akt (dep l (Au l sets (⟨(t:Int),true⟩:Found)) (left - 1 <<< t)) (dep l (Au l sets (⟨(t:Int),false⟩:Found)) (left - 1 <<< t)):=rfl
  rw [hw,encR_max]; rw [if_pos (by omega)]
 have q18:=of_decide_eq_false b18
 refine l_M (iV (Jt (dep l ((Au l sets ((⟨(t:Int),false⟩:Found)))) ((left - (1 <<< t)))))) (Ar rfl rfl rfl b18) rfl ?_
 refine Aa (Ar rfl rfl rfl b18) (Da (p:=Jt (dep l ((Au l sets ((⟨(t:Int),false⟩:Found)))) ((left - (1 <<< t))))) (q:=0) rfl rfl) ?_
 refine Aa rfl (Bm rfl b18 (v:=(.bool (decide (Jt (dep l ((Au l sets ((⟨(t:Int),false⟩:Found)))) ((left - (1 <<< t)))) < 0)))) rfl) ?_
 apply Ac
 apply k17
 refine As (t:=decide (Jt (dep l ((Au l sets ((⟨(t:Int),false⟩:Found)))) ((left - (1 <<< t)))) < 0)) rfl (fun b20=>?_) (fun b20=>?_)
 ·have q20:=of_decide_eq_true b20
  refine w_q rfl rfl fun K21 k21=>?_
  refine l_A (iV ((-1))) rfl rfl ?_
  apply Ac
  apply k21
  refine Aj (Arw (Arz (Arz l2 l9) l15)) ?_
  refine Aq ?_
  refine hret _ _ _ ?_
  refine ⟨rfl,rfl,Eq.trans (b:=(iV ((-1)))) rfl ?_⟩
  have hw:Gr l sets left t = Akt (dep l (Au l sets (⟨(t:Int),true⟩:Found)) (left - 1 <<< t)) (dep l (Au l sets (⟨(t:Int),false⟩:Found)) (left - 1 <<< t)):=rfl
  rw [hw,encR_max]; rw [if_pos (by omega)]
 have q20:=of_decide_eq_false b20
 refine Al ?_
 apply k16
 refine w_q rfl rfl fun K22 k22=>?_
 refine l_M (iV (Jt (dep l ((Au l sets ((⟨(t:Int),true⟩:Found)))) ((left - (1 <<< t)))))) rfl rfl ?_
 refine l_M (iV (Jt (dep l ((Au l sets ((⟨(t:Int),false⟩:Found)))) ((left - (1 <<< t)))))) rfl rfl ?_
 refine Aa rfl (Aqd (p:=Jt (dep l ((Au l sets ((⟨(t:Int),true⟩:Found)))) ((left - (1 <<< t))))) (q:=Jt (dep l ((Au l sets ((⟨(t:Int),false⟩:Found)))) ((left - (1 <<< t))))) rfl rfl) ?_
 refine Aa rfl (Br (p:=1) (q:=(max (Jt (dep l ((Au l sets ((⟨(t:Int),true⟩:Found)))) ((left - (1 <<< t))))) (Jt (dep l ((Au l sets ((⟨(t:Int),false⟩:Found)))) ((left - (1 <<< t))))))) rfl rfl (z:=(1 + (max (Jt (dep l ((Au l sets ((⟨(t:Int),true⟩:Found)))) ((left - (1 <<< t))))) (Jt (dep l ((Au l sets ((⟨(t:Int),false⟩:Found)))) ((left - (1 <<< t)))))))) (Bo (by first | rfl | omega | (push_cast; rfl)) (by omega) (by omega))) ?_
 refine l_A (iV ((1 + (max (Jt (dep l ((Au l sets ((⟨(t:Int),true⟩:Found)))) ((left - (1 <<< t))))) (Jt (dep l ((Au l sets ((⟨(t:Int),false⟩:Found)))) ((left - (1 <<< t))))))))) rfl rfl ?_
 apply Ac
 apply k22
 refine Aj (Arw (Arz (Arz l2 l9) l15)) ?_
 refine Aq ?_
 refine hret _ _ _ ?_
 refine ⟨rfl,rfl,Eq.trans (b:=(iV ((1 + (max (Jt (dep l ((Au l sets ((⟨(t:Int),true⟩:Found)))) ((left - (1 <<< t))))) (Jt (dep l ((Au l sets ((⟨(t:Int),false⟩:Found)))) ((left - (1 <<< t)))))))))) rfl ?_⟩
 have hw:Gr l sets left t = Akt (dep l (Au l sets (⟨(t:Int),true⟩:Found)) (left - 1 <<< t)) (dep l (Au l sets (⟨(t:Int),false⟩:Found)) (left - 1 <<< t)):=rfl
 rw [hw,encR_max]; rw [if_neg (by omega)] <;> rfl
set_option maxRecDepth 100000 in
theorem c_refdepth {mn:Bool} {X:Frame→List Frame→Ro→Own→Cy→Prop} {ρ:Ro} {σ:Own} {l:Lab} {vl vs:Value} {sets:List Nat} {left:Nat} (rl:Val ρ vl l) (rs:Val ρ vs (Bw sets)) (ok:LabOk l) (hs:sets.Sublist (List.range 16)) (hleft:left < 32):CallsH (CX mn X) 102 #[vl,vs,(iV ((left:Int)))] ρ σ (fun w ρ' σ'=>ρ' = ρ∧σ' = σ∧w = (iV (Jt (dep l sets left)))):=by
 induction left using Nat.strongRecOn generalizing sets vl vs ρ σ
 rename_i left ih
 have hnt:=ok.ntests
 refine Bh (n:=42) (args:=[vl,vs,(iV ((left:Int)))]) [6] Tryd.func102 rfl rfl rfl rfl fun Q hret hnor=>?_
 refine w_q rfl rfl fun K1 k1=>?_
 refine Ae rfl (Eb (v:=vl) rfl fun k2=>?_)
 refine Bb (a:=l) rl fun ρ2 l2 r2=>?_
 replace rl:=Asa l2 rl
 replace rs:=Asa l2 rs
 refine l_A (iV (0)) rfl rfl ?_
 apply Ac
 apply k1
 refine Ai fun K3 k3=>?_
 refine w_q rfl rfl fun K4 k4=>?_
 refine l_M vs rfl rfl ?_
 refine Ae rfl (Bn (vs:=[vs]) (v:=(.bool (Dz (Bw sets)))) (c_Settled rs) Tryd.func56 rfl rfl ⟨rfl,trivial⟩ ?_)
 apply Ac
 apply k4
 refine As (t:=Dz (Bw sets)) rfl (fun b5=>?_) (fun b5=>?_)
 ·refine w_q rfl rfl fun K6 k6=>?_
  refine l_A (iV (0)) rfl rfl ?_
  apply Ac
  apply k6
  refine Aj (Arw l2) ?_
  refine Aq ?_
  refine hret _ _ _ ?_
  refine ⟨rfl,rfl,Eq.trans (b:=(iV (0))) rfl ?_⟩
  rw [Un hleft,if_pos b5]; rfl
 refine Al ?_
 apply k3
 refine w_q rfl rfl fun K7 k7=>?_
 refine l_A (iV ((-1))) rfl rfl ?_
 apply Ac
 apply k7
 refine Ai fun K8 k8=>?_
 refine w_q rfl rfl fun K9 k9=>?_
 refine l_A (iV (0)) rfl rfl ?_
 apply Ac
 apply k9
 refine Ao ?_
 refine Cc (fun mm ee dd ρ' σ'=>∃ (t:Nat) (b:Int),(l.tests.length - t) = mm∧[] = dd∧ρ2 = ρ'∧σ = σ'∧ee 1 = vs∧ee 2 = (iV ((left:Int)))∧ee 3 = (.pointer (some ⟨k2,0,none⟩))∧ee 7 = (iV (b))∧ee 8 = (iV ((t:Int)))∧(t ≤ l.tests.length)∧(b = Jt (Mu t fun t=>if Cu left t then Gr l sets left t else none))∧True) (m:=_) ⟨0,(-1),rfl,rfl,rfl,rfl,rfl,rfl,rfl,rfl,rfl,(Nat.zero_le _),rfl,trivial⟩ ?_
 rintro m10 e10 _ _ _ ⟨t,b,rfl,rfl,rfl,rfl,h10_1,h10_2,h10_3,h10_7,h10_8,p10_0,p10_1,_⟩
 refine Ai fun K11 k11=>?_
 refine w_q rfl rfl fun K12 k12=>?_
 refine Aa rfl (Ah (v:=(iV ((t:Int)))) h10_8) ?_
 refine Ak rfl (Ay Lab.f_tests Tryd.underlying40 rfl rfl Vd (by decide) h10_3 r2) fun v13 r13=>?_
 refine Ak rfl (Ax Vd rfl r13) fun v14 r14=>?_
 have g15:=Val.len r14
 refine Aa rfl (Ce (el:=108) Tryd.underlying38 rfl r14) ?_
 refine Aa rfl (Da (p:=(t:Int)) (q:=((l.tests.length:Nat):Int)) rfl rfl) ?_
 apply Ac
 apply k12
 refine As (t:=decide ((t:Int) < ((l.tests.length:Nat):Int))) rfl (fun b16=>?_) (fun b16=>?_)
 ·have q16:=of_decide_eq_true b16
  refine Al ?_
  apply k11
  refine Ai fun K17 k17=>?_
  refine Ao ?_
  refine Ai fun K18 k18=>?_
  refine w_q rfl rfl fun K19 k19=>?_
  refine Aa rfl (Ah (v:=(iV ((left:Int)))) h10_2) ?_
  refine Aa rfl (Ah (v:=(iV ((t:Int)))) h10_8) ?_
  refine Aa rfl (Jq (p:=left) (q:=t) rfl rfl rfl (by omega)) ?_
  refine Aa rfl (y_rem (p:=(((left >>> t):Nat):Int)) (q:=2) rfl rfl (by omega) (z:=((((left >>> t) % 2):Nat):Int)) rfl) ?_
  refine Aa rfl (Ek (p:=((((left >>> t) % 2):Nat):Int)) (q:=0) rfl rfl) ?_
  apply Ac
  apply k19
  refine As (t:=((((left >>> t) % 2):Nat):Int) == 0) rfl (fun b20=>?_) (fun b20=>?_)
  ·have hbt21:=bit_z1 b20
   have q20:=Jo b20
   refine Bx ?_
   apply k17
   refine Ag rfl rfl ?_
   refine Aa rfl (Ah (v:=(iV ((t:Int)))) h10_8) ?_
   refine Aa rfl (Br (p:=(t:Int)) (q:=1) rfl rfl (z:=(((t + 1):Nat):Int)) (Bo (by first | rfl | omega | (push_cast; rfl)) (by omega) (by omega))) ?_
   refine l_A (iV ((((t + 1):Nat):Int))) rfl rfl ?_
   apply Ac
   refine ⟨_,?_,((t + 1)),(b),rfl,rfl,rfl,rfl,h10_1,h10_2,h10_3,h10_7,rfl,(by omega),(by rw [Ik,hbt21,if_neg (by simp),Rf]; exact p10_1),trivial⟩
   omega
  have hbt22:=bit_z0 b20
  have q20:=La b20
  refine Al ?_
  apply k18
  refine w_q rfl rfl fun K23 k23=>?_
  refine Ak rfl (Ax Aaj h10_3 r2) fun v24 r24=>?_
  refine Aa rfl (Ah (v:=vs) h10_1) ?_
  refine Aa rfl (Ah (v:=(iV ((left:Int)))) h10_2) ?_
  refine Aa rfl (Ah (v:=(iV ((t:Int)))) h10_8) ?_
  refine Ae rfl (Bn (vs:=[v24,vs,(iV ((left:Int))),(iV ((t:Int)))]) (v:=(iV (Jt (Gr l sets left t)))) (c_refwith (left:=left) (fun hm rl rs hs=>ih _ hm rl rs hs (by omega)) r24 rs ok hs hleft (by omega) hbt22) Tryd.func125 rfl rfl ⟨rfl,rfl,rfl,rfl,trivial⟩ ?_)
  refine l_A (iV (Jt (Gr l sets left t))) rfl rfl ?_
  apply Ac
  apply k23
  refine w_q rfl rfl fun K25 k25=>?_
  refine l_M (iV (Jt (Gr l sets left t))) rfl rfl ?_
  refine Aa rfl (Uv (p:=Jt (Gr l sets left t)) (q:=0) rfl rfl) ?_
  refine l_M (.bool (decide (Jt (Gr l sets left t) ≥ 0))) rfl rfl ?_
  refine Cn (decide (Jt (Gr l sets left t) ≥ 0)) (fun b26=>?_) (fun b26=>?_)
  ·have q26:=of_decide_eq_true b26
   refine Aa (Ar rfl rfl rfl b26) (Ah (v:=(iV (b))) h10_7) ?_
   refine Aa (Ar rfl rfl rfl b26) (Da (p:=b) (q:=0) rfl rfl) ?_
   refine l_M (.bool (decide (b < 0))) (Ar rfl rfl rfl b26) rfl ?_
   refine Cn (decide (b < 0)) (fun b27=>?_) (fun b27=>?_)
   ·have q27:=of_decide_eq_true b27
    refine Ap (Bl rfl rfl rfl b27) ?_
    refine Ap (Bl rfl rfl rfl b27) ?_
    refine Ap (Bl rfl rfl rfl b27) ?_
    refine Aa (Ar rfl rfl rfl b26) (Bt rfl b27 (v:=(.bool (true))) rfl) ?_
    refine Aa rfl (Bt rfl b26 (v:=(.bool (true))) rfl) ?_
    apply Ac
    apply k25
    refine Co rfl rfl ?_
    refine Ag rfl rfl ?_
    refine l_M (iV (Jt (Gr l sets left t))) rfl rfl ?_
    refine l_A (iV (Jt (Gr l sets left t))) rfl rfl ?_
    apply Ac
    apply k17
    refine Ag rfl rfl ?_
    refine Aa rfl (Ah (v:=(iV ((t:Int)))) h10_8) ?_
    refine Aa rfl (Br (p:=(t:Int)) (q:=1) rfl rfl (z:=(((t + 1):Nat):Int)) (Bo (by first | rfl | omega | (push_cast; rfl)) (by omega) (by omega))) ?_
    refine l_A (iV ((((t + 1):Nat):Int))) rfl rfl ?_
    apply Ac
    refine ⟨_,?_,((t + 1)),(Jt (Gr l sets left t)),rfl,rfl,rfl,rfl,h10_1,h10_2,h10_3,rfl,rfl,(by omega),(by rw [Ik,hbt22,if_pos rfl,encR_min,← p10_1]; first | rw [if_pos (by omega)] | rw [if_neg (by omega)]),trivial⟩
    omega
   have q27:=of_decide_eq_false b27
   refine l_M (iV (Jt (Gr l sets left t))) (Ar rfl rfl rfl b27) rfl ?_
   refine Aa (Ar rfl rfl rfl b27) (Ah (v:=(iV (b))) h10_7) ?_
   refine Aa (Ar rfl rfl rfl b27) (Da (p:=Jt (Gr l sets left t)) (q:=b) rfl rfl) ?_
   refine Aa (Ar rfl rfl rfl b26) (Bm rfl b27 (v:=(.bool (decide (Jt (Gr l sets left t) < b)))) rfl) ?_
   refine Aa rfl (Bt rfl b26 (v:=(.bool (decide (Jt (Gr l sets left t) < b)))) rfl) ?_
   apply Ac
   apply k25
   refine As (t:=decide (Jt (Gr l sets left t) < b)) rfl (fun b28=>?_) (fun b28=>?_)
   ·have q28:=of_decide_eq_true b28
    refine Ag rfl rfl ?_
    refine l_M (iV (Jt (Gr l sets left t))) rfl rfl ?_
    refine l_A (iV (Jt (Gr l sets left t))) rfl rfl ?_
    apply Ac
    apply k17
    refine Ag rfl rfl ?_
    refine Aa rfl (Ah (v:=(iV ((t:Int)))) h10_8) ?_
    refine Aa rfl (Br (p:=(t:Int)) (q:=1) rfl rfl (z:=(((t + 1):Nat):Int)) (Bo (by first | rfl | omega | (push_cast; rfl)) (by omega) (by omega))) ?_
    refine l_A (iV ((((t + 1):Nat):Int))) rfl rfl ?_
    apply Ac
    refine ⟨_,?_,((t + 1)),(Jt (Gr l sets left t)),rfl,rfl,rfl,rfl,h10_1,h10_2,h10_3,rfl,rfl,(by omega),(by rw [Ik,hbt22,if_pos rfl,encR_min,← p10_1]; first | rw [if_pos (by omega)] | rw [if_neg (by omega)]),trivial⟩
    omega
   have q28:=of_decide_eq_false b28
   refine Al ?_
   apply k17
   refine Ag rfl rfl ?_
   refine Aa rfl (Ah (v:=(iV ((t:Int)))) h10_8) ?_
   refine Aa rfl (Br (p:=(t:Int)) (q:=1) rfl rfl (z:=(((t + 1):Nat):Int)) (Bo (by first | rfl | omega | (push_cast; rfl)) (by omega) (by omega))) ?_
   refine l_A (iV ((((t + 1):Nat):Int))) rfl rfl ?_
   apply Ac
   refine ⟨_,?_,((t + 1)),(b),rfl,rfl,rfl,rfl,h10_1,h10_2,h10_3,h10_7,rfl,(by omega),(by rw [Ik,hbt22,if_pos rfl,encR_min,← p10_1]; first | rw [if_pos (by omega)] | rw [if_neg (by omega)]),trivial⟩
   omega
  have q26:=of_decide_eq_false b26
  refine Ap (Bl rfl rfl rfl b26) ?_
  refine Ap (Bl rfl rfl rfl b26) ?_
  refine Ap (Bl rfl rfl rfl b26) ?_
  refine Ap (Jf rfl rfl rfl) ?_
  refine Ap (Jf rfl rfl rfl) ?_
  refine Ap (Jf rfl rfl rfl) ?_
  refine Ap (Bl rfl rfl rfl b26) ?_
  refine Aa rfl (Bm rfl b26 (v:=(.bool (false))) rfl) ?_
  apply Ac
  apply k25
  refine Cg rfl rfl ?_
  refine Al ?_
  apply k17
  refine Ag rfl rfl ?_
  refine Aa rfl (Ah (v:=(iV ((t:Int)))) h10_8) ?_
  refine Aa rfl (Br (p:=(t:Int)) (q:=1) rfl rfl (z:=(((t + 1):Nat):Int)) (Bo (by first | rfl | omega | (push_cast; rfl)) (by omega) (by omega))) ?_
  refine l_A (iV ((((t + 1):Nat):Int))) rfl rfl ?_
  apply Ac
  refine ⟨_,?_,((t + 1)),(b),rfl,rfl,rfl,rfl,h10_1,h10_2,h10_3,h10_7,rfl,(by omega),(by rw [Ik,hbt22,if_pos rfl,encR_min,← p10_1]; first | rw [if_pos (by omega)] | rw [if_neg (by omega)]),trivial⟩
  omega
 have q16:=of_decide_eq_false b16
 refine Bx ?_
 apply k8
 refine w_q rfl rfl fun K29 k29=>?_
 refine Aa rfl (Ah (v:=(iV (b))) h10_7) ?_
 refine l_A (iV (b)) rfl rfl ?_
 apply Ac
 apply k29
 refine Aj (Arw l2) ?_
 refine Aq ?_
 refine hret _ _ _ ?_
 refine ⟨rfl,rfl,Eq.trans (b:=(iV (b))) rfl ?_⟩
 rw [Un hleft,if_neg (by simp [b5]),p10_1,show t = l.tests.length by omega]
set_option maxRecDepth 100000 in
theorem c_refgrown {mn:Bool} {X:Frame→List Frame→Ro→Own→Cy→Prop} {ρ:Ro} {σ:Own} {l:Lab} {vl vt vs:Value} {tree:List FNode} {gr:Own} {sets:List Nat} {left d:Nat} (rl:Val ρ vl l) (G0:Grow ρ 94 vt tree gr) (rs:Val ρ vs (Bw sets)) (ok:LabOk l) (hs:sets.Sublist (List.range 16)) (hleft:left < 32) (hd:dep l sets left = some d) (hlen:tree.length + 2 ^ (De left + 1) ≤ 1000000):CallsH (CX mn X) 103 #[vl,vt,vs,(iV ((left:Int)))] ρ ((gr ++ σ)) (fun w ρ' σ'=>Ro.le ρ ρ'∧∃ v' gr',w = .tuple #[v',iV (Bp l tree sets left).2]∧σ' = gr' ++ σ∧Grow ρ' 94 v' (Bp l tree sets left).1 gr'):=by
 induction left using Nat.strongRecOn generalizing tree sets d vl vt vs ρ σ gr
 rename_i left ih
 have hnt:=ok.ntests
 have hpp:=Nat.one_le_two_pow (n:=De left)
 refine Bh (n:=83) (args:=[vl,vt,vs,(iV ((left:Int)))]) [8,9] Tryd.func103 rfl rfl rfl rfl fun Q hret hnor=>?_
 refine w_q rfl rfl fun K1 k1=>?_
 refine Ae rfl (Eb (v:=vl) rfl fun k2=>?_)
 refine Bb (a:=l) rl fun ρ2 l2 r2=>?_
 replace rl:=Asa l2 rl
 replace rs:=Asa l2 rs
 replace G0:=Grow.mono l2 G0
 refine l_A (.slice none 0 0) rfl rfl ?_
 refine l_A (iV (0)) rfl rfl ?_
 apply Ac
 apply k1
 refine Ai fun K3 k3=>?_
 refine w_q rfl rfl fun K4 k4=>?_
 refine l_M vs rfl rfl ?_
 refine Ae rfl (Bn (vs:=[vs]) (v:=(.bool (Dz (Bw sets)))) (c_Settled rs) Tryd.func56 rfl rfl ⟨rfl,trivial⟩ ?_)
 apply Ac
 apply k4
 refine As (t:=Dz (Bw sets)) rfl (fun b5=>?_) (fun b5=>?_)
 ·refine w_q rfl rfl fun K6 k6=>?_
  refine l_M vt rfl rfl ?_
  refine l_A vt rfl rfl ?_
  refine l_A (iV ((-1))) rfl rfl ?_
  apply Ac
  apply k6
  refine Aq ?_
  refine hret _ _ _ ?_
  refine ⟨l2,vt,gr,Eq.trans (b:=.tuple #[vt,(iV ((-1)))]) (Mk (r:=8) (r':=9) (rs:=[]) (v:=vt) (v':=(iV ((-1)))) (vs:=[]) ⟨rfl,rfl,trivial⟩) ?_,rfl,Ga ?_ G0⟩
  ·rw [Ou b5]
  ·rw [Ou b5]
 refine Al ?_
 apply k3
 refine w_q rfl rfl fun K7 k7=>?_
 refine Ak rfl (Ax Aaj rfl r2) fun v8 r8=>?_
 refine l_M vs rfl rfl ?_
 refine l_M (iV ((left:Int))) rfl rfl ?_
 refine Ae rfl (Bn (vs:=[v8,vs,(iV ((left:Int)))]) (v:=(iV (Jt (dep l sets left)))) (c_refdepth r8 rs ok hs (by omega)) Tryd.func102 rfl rfl ⟨rfl,rfl,rfl,trivial⟩ ?_)
 refine l_A (iV (Jt (dep l sets left))) rfl rfl ?_
 apply Ac
 apply k7
 refine w_q rfl rfl fun K9 k9=>?_
 refine l_A (iV (0)) rfl rfl ?_
 apply Ac
 apply k9
 refine Ai fun K10 k10=>?_
 refine Ao ?_
 have hset:=b5
 obtain ⟨ta1,ta2,ta3,ta4⟩:=Add hleft hd hset
 refine Cc (fun mm ee dd ρ' σ'=>∃ (t:Nat),(Dn l sets left - t) = mm∧[] = dd∧ρ2 = ρ'∧(gr ++ σ) = σ'∧ee 1 = vt∧ee 2 = vs∧ee 3 = (iV ((left:Int)))∧ee 4 = (.pointer (some ⟨k2,0,none⟩))∧ee 10 = (iV (Jt (dep l sets left)))∧ee 11 = (iV ((t:Int)))∧(t ≤ Dn l sets left)∧True) (m:=_) ⟨0,rfl,rfl,rfl,rfl,rfl,rfl,rfl,rfl,rfl,rfl,(Nat.zero_le _),trivial⟩ ?_
 rintro m11 e11 _ _ _ ⟨t,rfl,rfl,rfl,rfl,h11_1,h11_2,h11_3,h11_4,h11_10,h11_11,p11_0,_⟩
 refine Ai fun K12 k12=>?_
 refine w_q rfl rfl fun K13 k13=>?_
 refine Aa rfl (Ah (v:=(iV ((left:Int)))) h11_3) ?_
 refine Aa rfl (Ah (v:=(iV ((t:Int)))) h11_11) ?_
 refine Aa rfl (Jq (p:=left) (q:=t) rfl rfl rfl (by omega)) ?_
 refine Aa rfl (y_rem (p:=(((left >>> t):Nat):Int)) (q:=2) rfl rfl (by omega) (z:=((((left >>> t) % 2):Nat):Int)) rfl) ?_
 refine Aa rfl (Ek (p:=((((left >>> t) % 2):Nat):Int)) (q:=0) rfl rfl) ?_
 refine l_M (.bool (((((left >>> t) % 2):Nat):Int) == 0)) rfl rfl ?_
 refine Cn (((((left >>> t) % 2):Nat):Int) == 0) (fun b14=>?_) (fun b14=>?_)
 ·have hbt15:=bit_z1 b14
  have q14:=Jo b14
  refine Ap (Bl rfl rfl rfl b14) ?_
  refine Ap (Bl rfl rfl rfl b14) ?_
  refine Ap (Bl rfl rfl rfl b14) ?_
  refine Ap (Bl rfl rfl rfl b14) ?_
  refine Ap (Bl rfl rfl rfl b14) ?_
  refine Ap (Bl rfl rfl rfl b14) ?_
  refine Ap (Bl rfl rfl rfl b14) ?_
  refine Aa rfl (Bt rfl b14 (v:=(.bool (true))) rfl) ?_
  apply Ac
  apply k13
  refine Co rfl rfl ?_
  refine Al ?_
  apply k12
  refine Ao ?_
  refine Ag rfl rfl ?_
  refine Aa rfl (Ah (v:=(iV ((t:Int)))) h11_11) ?_
  refine Aa rfl (Br (p:=(t:Int)) (q:=1) rfl rfl (z:=(((t + 1):Nat):Int)) (Bo (by first | rfl | omega | (push_cast; rfl)) (by omega) (by omega))) ?_
  refine l_A (iV ((((t + 1):Nat):Int))) rfl rfl ?_
  apply Ac
  refine ⟨_,?_,((t + 1)),rfl,rfl,rfl,rfl,h11_1,h11_2,h11_3,h11_4,h11_10,rfl,(Nz ta2 ta3 hd p11_0 (Wp hbt15)),trivial⟩
  have:=Nz ta2 ta3 hd p11_0 (Wp hbt15); omega
 have hbt16:=bit_z0 b14
 have q14:=La b14
 refine Ak (Ar rfl rfl rfl b14) (Ax Aaj h11_4 r2) fun v17 r17=>?_
 refine Aa (Ar rfl rfl rfl b14) (Ah (v:=vs) h11_2) ?_
 refine Aa (Ar rfl rfl rfl b14) (Ah (v:=(iV ((left:Int)))) h11_3) ?_
 refine Aa (Ar rfl rfl rfl b14) (Ah (v:=(iV ((t:Int)))) h11_11) ?_
 refine Ae (Ar rfl rfl rfl b14) (Bn (vs:=[v17,vs,(iV ((left:Int))),(iV ((t:Int)))]) (v:=(iV (Jt (Gr l sets left t)))) (c_refwith (left:=left) (fun hm rl rs hs=>c_refdepth rl rs ok hs (by omega)) r17 rs ok hs (by omega) (by omega) hbt16) Tryd.func125 rfl rfl ⟨rfl,rfl,rfl,rfl,trivial⟩ ?_)
 refine Aa (Ar rfl rfl rfl b14) (Ah (v:=(iV (Jt (dep l sets left)))) h11_10) ?_
 refine Aa (Ar rfl rfl rfl b14) (Dg (p:=Jt (Gr l sets left t)) (q:=Jt (dep l sets left)) rfl rfl) ?_
 refine Aa rfl (Bm rfl b14 (v:=(.bool (Jt (Gr l sets left t) != Jt (dep l sets left)))) rfl) ?_
 apply Ac
 apply k13
 refine As (t:=Jt (Gr l sets left t) != Jt (dep l sets left)) rfl (fun b18=>?_) (fun b18=>?_)
 ·have q18:=Mb b18
  refine Al ?_
  apply k12
  refine Ao ?_
  refine Ag rfl rfl ?_
  refine Aa rfl (Ah (v:=(iV ((t:Int)))) h11_11) ?_
  refine Aa rfl (Br (p:=(t:Int)) (q:=1) rfl rfl (z:=(((t + 1):Nat):Int)) (Bo (by first | rfl | omega | (push_cast; rfl)) (by omega) (by omega))) ?_
  refine l_A (iV ((((t + 1):Nat):Int))) rfl rfl ?_
  apply Ac
  refine ⟨_,?_,((t + 1)),rfl,rfl,rfl,rfl,h11_1,h11_2,h11_3,h11_4,h11_10,rfl,(Nz ta2 ta3 hd p11_0 (Vn b18)),trivial⟩
  have:=Nz ta2 ta3 hd p11_0 (Vn b18); omega
 have htt:=Akk p11_0 ta4 (Ahu hbt16 b18)
 rw [← htt] at ta2 ta3
 obtain ⟨da,db,hda,hdb,hdd⟩:=Wj ta3
 obtain ⟨hle,hpop⟩:=Og hleft ta2
 have h1t:1 ≤ 1 <<< t:=by rw [Nat.one_shiftLeft]; exact Nat.one_le_two_pow
 have hpw:2 ^ (De left + 1) = 2 * 2 ^ (De (left - 1 <<< t) + 1):=by rw [hpop,Nat.pow_succ]; omega
 have hp1:=Nat.one_le_two_pow (n:=De (left - 1 <<< t) + 1)
 have q18:=Jh b18
 refine Bx ?_
 apply k10
 refine w_q rfl rfl fun K19 k19=>?_
 refine Aa rfl (Ah (v:=vt) h11_1) ?_
 have g20:=Grow.len G0
 refine Aa rfl (Aht (el':=94) Tryd.underlying49 rfl G0) ?_
 refine l_A (iV (((tree.length:Nat):Int))) rfl rfl ?_
 apply Ac
 apply k19
 refine w_q rfl rfl fun K21 k21=>?_
 refine Aa rfl (Ah (v:=vt) h11_1) ?_
 refine Aa rfl (Ah (v:=(iV ((t:Int)))) h11_11) ?_
 have r22:Val ρ2 (.agg #[(iV ((t:Int))),(iV (0)),(iV (0))]) (⟨(t:Int),0,0⟩:FNode):=FNode.shut (x:=(⟨(t:Int),0,0⟩:FNode)) (show I64 ((t:Int)) from by constructor <;> omega) (show I64 (0) from by constructor <;> omega) (show I64 (0) from by constructor <;> omega)
 refine Aa rfl (Dm (ns:=[1,1,1]) (vs:=[(0,(iV ((t:Int))))]) (zc:=Aly) (cs:=[(iV ((t:Int))),(iV (0)),(iV (0))]) Tryd.underlying94 Aes rfl ⟨⟨_,Ab Tryd.typeInfo3,rfl⟩,⟨_,Ab Tryd.typeInfo3,rfl⟩,⟨_,Ab Tryd.typeInfo3,rfl⟩,trivial⟩ (EvB.map ⟨⟨rfl,rfl⟩,trivial⟩) ((Bd (cs:=[(iV ((t:Int)))]) rfl rfl (Nat.le_of_ble_eq_true rfl)).trans rfl)) ?_
 refine Ae rfl (Bi (α:=FNode) (xs:=[(⟨(t:Int),0,0⟩:FNode)]) (vs:=[(.agg #[(iV ((t:Int))),(iV (0)),(iV (0))])]) Tryd.underlying49 ty94 Aes rfl (by decide) (Dl (os:=[.tmp 43]) ⟨rfl,trivial⟩) ⟨r22,trivial⟩ rfl (by decide) fun k23 cs23 R23=>?_)
 have G23:Grow ρ2 94 (.slice (some ⟨k23,0,none⟩) 1 1) ([(⟨(t:Int),0,0⟩:FNode)]:List FNode) [(k23,.obj (.cells cs23.toArray 94 (0,0)))]:=Bs R23 rfl (by decide)
 refine Ca G23 fun ρ25 l25 r25=>?_
 replace rs:=Asa l25 rs
 replace G0:=Grow.mono l25 G0
 replace r2:=Arv l25 r2
 replace r22:=Asa l25 r22
 refine Ae rfl (Fx (σ:=σ) (gr:=gr) (xs:=tree) (ys:=([(⟨(t:Int),0,0⟩:FNode)]:List FNode)) Tryd.underlying49 Tryd.underlying49 (Ab Tryd.typeInfo94) rfl (Nat.le_of_ble_eq_true rfl) rfl rfl rfl rfl G0 r25 (by simp only [List.length_append,List.length_cons,List.length_nil] at *; omega) fun v24 gr24 G24=>?_)
 refine l_A v24 rfl rfl ?_
 apply Ac
 apply k21
 refine w_q rfl rfl fun K26 k26=>?_
 refine Aa rfl (Ah (v:=(iV ((left:Int)))) h11_3) ?_
 refine Aa rfl (Ah (v:=(iV ((t:Int)))) h11_11) ?_
 refine Aa rfl (Ly (p:=1) (q:=t) rfl rfl rfl (by omega) (z:=(((1 <<< t):Nat):Int)) (Bo rfl (by omega) (by omega))) ?_
 refine Aa rfl (Oq (p:=(left:Int)) (q:=(((1 <<< t):Nat):Int)) rfl rfl (z:=(((left - (1 <<< t)):Nat):Int)) (Bo (by omega) (by omega) (by omega))) ?_
 refine l_A (iV ((((left - (1 <<< t)):Nat):Int))) rfl rfl ?_
 apply Ac
 apply k26
 refine w_q rfl rfl fun K27 k27=>?_
 refine l_A (iV (0)) rfl rfl ?_
 refine l_A (iV (0)) rfl rfl ?_
 apply Ac
 apply k27
 refine Ai fun K28 k28=>?_
 refine Dc [0,1,2,3,4,5,6,7,8,9,10,11,12,13] (by kernel_rfl) rfl rfl ?_
 refine Cd (i:=0) [o1,o0,o0,o0,o0,o0,o0,o0,o0,o0,o0,o0,o0,o0] rfl (by kernel_rfl) rfl Ary rfl (Ax Aaj h11_4 r2) fun v29 r29=>?_
 refine Be (i:=1) [o1,o1,o0,o0,o0,o0,o0,o0,o0,o0,o0,o0,o0,o0] rfl (by kernel_rfl) rfl Ary rfl (Ah (v:=v24) rfl) ?_
 refine Cd (i:=2) [o1,o1,o1,o0,o0,o0,o0,o0,o0,o0,o0,o0,o0,o0] rfl (by kernel_rfl) rfl Ary rfl (Ax Aaj h11_4 r2) fun v30 r30=>?_
 refine Be (i:=3) [o1,o1,o1,o1,o0,o0,o0,o0,o0,o0,o0,o0,o0,o0] rfl (by kernel_rfl) rfl Ary rfl (Ah (v:=vs) h11_2) ?_
 refine Be (i:=4) [o1,o1,o1,o1,o1,o0,o0,o0,o0,o0,o0,o0,o0,o0] rfl (by kernel_rfl) rfl Ary rfl (Ah (v:=(iV ((t:Int)))) h11_11) ?_
 have r31:Val ρ25 (.agg #[(iV ((t:Int))),(.bool (true))]) (⟨(t:Int),true⟩:Found):=Found.shut (x:=(⟨(t:Int),true⟩:Found)) (show I64 ((t:Int)) from by constructor <;> omega)
 refine Be (i:=5) [o1,o1,o1,o1,o1,o1,o0,o0,o0,o0,o0,o0,o0,o0] rfl (by kernel_rfl) rfl Ary rfl (Dm (ns:=[1,1]) (vs:=[(0,(iV ((t:Int)))),(1,(.bool (true)))]) (zc:=Alq) (cs:=[(iV ((t:Int))),(.bool (true))]) Tryd.underlying43 Ahd rfl ⟨⟨_,Ab Tryd.typeInfo3,rfl⟩,⟨_,Ab Tryd.typeInfo4,rfl⟩,trivial⟩ (EvB.map ⟨⟨rfl,rfl⟩,⟨rfl,rfl⟩,trivial⟩) ((Bd (cs:=[(iV ((t:Int)))]) rfl rfl (Nat.le_of_ble_eq_true rfl)).trans ((Bd (cs:=[(.bool (true))]) rfl rfl (Nat.le_of_ble_eq_true rfl)).trans rfl))) ?_
 refine Be (i:=7) [o1,o1,o1,o1,o1,o1,o0,o1,o0,o0,o0,o0,o0,o0] rfl (by kernel_rfl) rfl Ary rfl (Ah (v:=(iV ((((left - (1 <<< t)):Nat):Int)))) rfl) ?_
 have ha32:=Abx hs
 refine Dj (i:=6) [o1,o1,o1,o1,o1,o1,o1,o1,o0,o0,o0,o0,o0,o0] rfl (by kernel_rfl) rfl rfl (Cm (vs:=[v30,vs,(.agg #[(iV ((t:Int))),(.bool (true))])]) (c_refafter (sets:=sets) r30 rs r31 (show 0 ≤ (t:Int)∧(t:Int) < (l.tests.length:Int) by omega) ha32.1 ha32.2) Tryd.func108 rfl rfl ⟨rfl,rfl,rfl,trivial⟩ fun v33 ρ33 σ33 hc33=>?_)
 obtain ⟨l33,s33,r33⟩:=hc33
 replace s33:=s33.symm; subst s33
 replace rs:=Asa l33 rs
 replace r2:=Arv l33 r2
 replace G24:=Grow.mono l33 G24
 replace r29:=Asa l33 r29
 replace r30:=Asa l33 r30
 replace r31:=Asa l33 r31
 refine ⟨l33,?_⟩
 refine Dj (i:=8) [o1,o1,o1,o1,o1,o1,o1,o1,o1,o0,o0,o0,o0,o0] rfl (by kernel_rfl) rfl rfl (Cm (vs:=[v29,v24,v33,(iV ((((left - (1 <<< t)):Nat):Int)))]) (ih (left - 1 <<< t) (by omega) (σ:=σ) (gr:=gr24) (tree:=(tree ++ ([(⟨(t:Int),0,0⟩:FNode)]:List FNode))) (sets:=(Au l sets ((⟨(t:Int),true⟩:Found)))) r29 G24 r33 (Abt hs) (by omega) hda (by (try simp only [List.length_append,List.length_singleton] at *); omega)) Tryd.func103 rfl rfl ⟨rfl,rfl,rfl,rfl,trivial⟩ fun w34 ρ34 σ34 hc34=>?_)
 obtain ⟨l34,v34,gr34,w34e,s34,G34⟩:=hc34
 subst s34 w34e
 replace rs:=Asa l34 rs
 replace r2:=Arv l34 r2
 replace G24:=Grow.mono l34 G24
 replace r29:=Asa l34 r29
 replace r30:=Asa l34 r30
 replace r31:=Asa l34 r31
 replace r33:=Asa l34 r33
 refine ⟨(Arz l33 l34),?_⟩
 have hgl35:=(show _∧_ from by have:=@Hz l; exact (Hz:_ ≤ (Bp l ((tree ++ ([(⟨(t:Int),0,0⟩:FNode)]:List FNode))) ((Au l sets ((⟨(t:Int),true⟩:Found)))) ((left - (1 <<< t)))).1.length∧(Bp l ((tree ++ ([(⟨(t:Int),0,0⟩:FNode)]:List FNode))) ((Au l sets ((⟨(t:Int),true⟩:Found)))) ((left - (1 <<< t)))).1.length + 1 ≤ _))
 have hgi35:=(Pe:(Bp l ((tree ++ ([(⟨(t:Int),0,0⟩:FNode)]:List FNode))) ((Au l sets ((⟨(t:Int),true⟩:Found)))) ((left - (1 <<< t)))).2 = -1∨(Bp l ((tree ++ ([(⟨(t:Int),0,0⟩:FNode)]:List FNode))) ((Au l sets ((⟨(t:Int),true⟩:Found)))) ((left - (1 <<< t)))).2 = _)
 try simp only [List.length_append,List.length_singleton] at hgl35 hgi35
 refine Bg (i:=9) [o1,o1,o1,o1,o1,o1,o1,o1,o1,o1,o0,o0,o0,o0] rfl (by kernel_rfl) rfl (Arz l33 l34) rfl (Ah (v:=(.tuple #[v34,(iV ((Bp l ((tree ++ ([(⟨(t:Int),0,0⟩:FNode)]:List FNode))) ((Au l sets ((⟨(t:Int),true⟩:Found)))) ((left - (1 <<< t)))).2))])) rfl) ?_
 refine Qq (by kernel_rfl) (Arz l33 l34) Ary ?_
 refine Be (i:=10) [o1,o1,o1,o1,o1,o1,o1,o1,o1,o1,o1,o0,o0,o0] rfl (by kernel_rfl) rfl Ary rfl (Bk (vs:=#[v34,(iV ((Bp l ((tree ++ ([(⟨(t:Int),0,0⟩:FNode)]:List FNode))) ((Au l sets ((⟨(t:Int),true⟩:Found)))) ((left - (1 <<< t)))).2))]) rfl (v:=v34) rfl) ?_
 refine Be (i:=11) [o1,o1,o1,o1,o1,o1,o1,o1,o1,o1,o1,o1,o0,o0] rfl (by kernel_rfl) rfl Ary rfl (Bk (vs:=#[v34,(iV ((Bp l ((tree ++ ([(⟨(t:Int),0,0⟩:FNode)]:List FNode))) ((Au l sets ((⟨(t:Int),true⟩:Found)))) ((left - (1 <<< t)))).2))]) rfl (v:=(iV ((Bp l ((tree ++ ([(⟨(t:Int),0,0⟩:FNode)]:List FNode))) ((Au l sets ((⟨(t:Int),true⟩:Found)))) ((left - (1 <<< t)))).2))) rfl) ?_
 refine Bg (i:=12) [o1,o1,o1,o1,o1,o1,o1,o1,o1,o1,o1,o1,o1,o0] rfl (by kernel_rfl) rfl Ary rfl (Cp (v:=v34) rfl) ?_
 refine Bg (i:=13) [o1,o1,o1,o1,o1,o1,o1,o1,o1,o1,o1,o1,o1,o1] rfl (by kernel_rfl) rfl Ary rfl (Cp (v:=(iV ((Bp l ((tree ++ ([(⟨(t:Int),0,0⟩:FNode)]:List FNode))) ((Au l sets ((⟨(t:Int),true⟩:Found)))) ((left - (1 <<< t)))).2))) rfl) ?_
 refine Ec rfl ?_
 apply k28
 refine Ai fun K36 k36=>?_
 refine Dc [0,1,2,3,4,5,6,7,8,9,10,11,12,13] (by kernel_rfl) rfl rfl ?_
 refine Cd (i:=0) [o1,o0,o0,o0,o0,o0,o0,o0,o0,o0,o0,o0,o0,o0] rfl (by kernel_rfl) rfl Ary rfl (Ax Aaj h11_4 r2) fun v37 r37=>?_
 refine Be (i:=1) [o1,o1,o0,o0,o0,o0,o0,o0,o0,o0,o0,o0,o0,o0] rfl (by kernel_rfl) rfl Ary rfl (Ah (v:=v34) rfl) ?_
 refine Cd (i:=2) [o1,o1,o1,o0,o0,o0,o0,o0,o0,o0,o0,o0,o0,o0] rfl (by kernel_rfl) rfl Ary rfl (Ax Aaj h11_4 r2) fun v38 r38=>?_
 refine Be (i:=3) [o1,o1,o1,o1,o0,o0,o0,o0,o0,o0,o0,o0,o0,o0] rfl (by kernel_rfl) rfl Ary rfl (Ah (v:=vs) h11_2) ?_
 refine Be (i:=4) [o1,o1,o1,o1,o1,o0,o0,o0,o0,o0,o0,o0,o0,o0] rfl (by kernel_rfl) rfl Ary rfl (Ah (v:=(iV ((t:Int)))) h11_11) ?_
 have r39:Val ρ34 (.agg #[(iV ((t:Int))),(.bool (false))]) (⟨(t:Int),false⟩:Found):=Found.shut (x:=(⟨(t:Int),false⟩:Found)) (show I64 ((t:Int)) from by constructor <;> omega)
 refine Be (i:=5) [o1,o1,o1,o1,o1,o1,o0,o0,o0,o0,o0,o0,o0,o0] rfl (by kernel_rfl) rfl Ary rfl (Dm (ns:=[1,1]) (vs:=[(0,(iV ((t:Int))))]) (zc:=Alq) (cs:=[(iV ((t:Int))),(.bool (false))]) Tryd.underlying43 Ahd rfl ⟨⟨_,Ab Tryd.typeInfo3,rfl⟩,⟨_,Ab Tryd.typeInfo4,rfl⟩,trivial⟩ (EvB.map ⟨⟨rfl,rfl⟩,trivial⟩) ((Bd (cs:=[(iV ((t:Int)))]) rfl rfl (Nat.le_of_ble_eq_true rfl)).trans rfl)) ?_
 refine Be (i:=7) [o1,o1,o1,o1,o1,o1,o0,o1,o0,o0,o0,o0,o0,o0] rfl (by kernel_rfl) rfl Ary rfl (Ah (v:=(iV ((((left - (1 <<< t)):Nat):Int)))) rfl) ?_
 have ha40:=Abx hs
 refine Dj (i:=6) [o1,o1,o1,o1,o1,o1,o1,o1,o0,o0,o0,o0,o0,o0] rfl (by kernel_rfl) rfl rfl (Cm (vs:=[v38,vs,(.agg #[(iV ((t:Int))),(.bool (false))])]) (c_refafter (sets:=sets) r38 rs r39 (show 0 ≤ (t:Int)∧(t:Int) < (l.tests.length:Int) by omega) ha40.1 ha40.2) Tryd.func108 rfl rfl ⟨rfl,rfl,rfl,trivial⟩ fun v41 ρ41 σ41 hc41=>?_)
 obtain ⟨l41,s41,r41⟩:=hc41
 replace s41:=s41.symm; subst s41
 replace rs:=Asa l41 rs
 replace r2:=Arv l41 r2
 replace G34:=Grow.mono l41 G34
 replace r37:=Asa l41 r37
 replace r38:=Asa l41 r38
 replace r39:=Asa l41 r39
 refine ⟨l41,?_⟩
 refine Dj (i:=8) [o1,o1,o1,o1,o1,o1,o1,o1,o1,o0,o0,o0,o0,o0] rfl (by kernel_rfl) rfl rfl (Cm (vs:=[v37,v34,v41,(iV ((((left - (1 <<< t)):Nat):Int)))]) (ih (left - 1 <<< t) (by omega) (σ:=σ) (gr:=gr34) (tree:=(Bp l ((tree ++ ([(⟨(t:Int),0,0⟩:FNode)]:List FNode))) ((Au l sets ((⟨(t:Int),true⟩:Found)))) ((left - (1 <<< t)))).1) (sets:=(Au l sets ((⟨(t:Int),false⟩:Found)))) r37 G34 r41 (Abt hs) (by omega) hdb (by (try simp only [List.length_append,List.length_singleton] at *); omega)) Tryd.func103 rfl rfl ⟨rfl,rfl,rfl,rfl,trivial⟩ fun w42 ρ42 σ42 hc42=>?_)
 obtain ⟨l42,v42,gr42,w42e,s42,G42⟩:=hc42
 subst s42 w42e
 replace rs:=Asa l42 rs
 replace r2:=Arv l42 r2
 replace G34:=Grow.mono l42 G34
 replace r37:=Asa l42 r37
 replace r38:=Asa l42 r38
 replace r39:=Asa l42 r39
 replace r41:=Asa l42 r41
 refine ⟨(Arz l41 l42),?_⟩
 have hgl43:=(show _∧_ from by have:=@Hz l; exact (Hz:_ ≤ (Bp l ((Bp l ((tree ++ ([(⟨(t:Int),0,0⟩:FNode)]:List FNode))) ((Au l sets ((⟨(t:Int),true⟩:Found)))) ((left - (1 <<< t)))).1) ((Au l sets ((⟨(t:Int),false⟩:Found)))) ((left - (1 <<< t)))).1.length∧(Bp l ((Bp l ((tree ++ ([(⟨(t:Int),0,0⟩:FNode)]:List FNode))) ((Au l sets ((⟨(t:Int),true⟩:Found)))) ((left - (1 <<< t)))).1) ((Au l sets ((⟨(t:Int),false⟩:Found)))) ((left - (1 <<< t)))).1.length + 1 ≤ _))
 have hgi43:=(Pe:(Bp l ((Bp l ((tree ++ ([(⟨(t:Int),0,0⟩:FNode)]:List FNode))) ((Au l sets ((⟨(t:Int),true⟩:Found)))) ((left - (1 <<< t)))).1) ((Au l sets ((⟨(t:Int),false⟩:Found)))) ((left - (1 <<< t)))).2 = -1∨(Bp l ((Bp l ((tree ++ ([(⟨(t:Int),0,0⟩:FNode)]:List FNode))) ((Au l sets ((⟨(t:Int),true⟩:Found)))) ((left - (1 <<< t)))).1) ((Au l sets ((⟨(t:Int),false⟩:Found)))) ((left - (1 <<< t)))).2 = _)
 try simp only [List.length_append,List.length_singleton] at hgl43 hgi43
 refine Bg (i:=9) [o1,o1,o1,o1,o1,o1,o1,o1,o1,o1,o0,o0,o0,o0] rfl (by kernel_rfl) rfl (Arz l41 l42) rfl (Ah (v:=(.tuple #[v42,(iV ((Bp l ((Bp l ((tree ++ ([(⟨(t:Int),0,0⟩:FNode)]:List FNode))) ((Au l sets ((⟨(t:Int),true⟩:Found)))) ((left - (1 <<< t)))).1) ((Au l sets ((⟨(t:Int),false⟩:Found)))) ((left - (1 <<< t)))).2))])) rfl) ?_
 refine Qq (by kernel_rfl) (Arz l41 l42) Ary ?_
 refine Be (i:=10) [o1,o1,o1,o1,o1,o1,o1,o1,o1,o1,o1,o0,o0,o0] rfl (by kernel_rfl) rfl Ary rfl (Bk (vs:=#[v42,(iV ((Bp l ((Bp l ((tree ++ ([(⟨(t:Int),0,0⟩:FNode)]:List FNode))) ((Au l sets ((⟨(t:Int),true⟩:Found)))) ((left - (1 <<< t)))).1) ((Au l sets ((⟨(t:Int),false⟩:Found)))) ((left - (1 <<< t)))).2))]) rfl (v:=v42) rfl) ?_
 refine Be (i:=11) [o1,o1,o1,o1,o1,o1,o1,o1,o1,o1,o1,o1,o0,o0] rfl (by kernel_rfl) rfl Ary rfl (Bk (vs:=#[v42,(iV ((Bp l ((Bp l ((tree ++ ([(⟨(t:Int),0,0⟩:FNode)]:List FNode))) ((Au l sets ((⟨(t:Int),true⟩:Found)))) ((left - (1 <<< t)))).1) ((Au l sets ((⟨(t:Int),false⟩:Found)))) ((left - (1 <<< t)))).2))]) rfl (v:=(iV ((Bp l ((Bp l ((tree ++ ([(⟨(t:Int),0,0⟩:FNode)]:List FNode))) ((Au l sets ((⟨(t:Int),true⟩:Found)))) ((left - (1 <<< t)))).1) ((Au l sets ((⟨(t:Int),false⟩:Found)))) ((left - (1 <<< t)))).2))) rfl) ?_
 refine Bg (i:=12) [o1,o1,o1,o1,o1,o1,o1,o1,o1,o1,o1,o1,o1,o0] rfl (by kernel_rfl) rfl Ary rfl (Cp (v:=v42) rfl) ?_
 refine Bg (i:=13) [o1,o1,o1,o1,o1,o1,o1,o1,o1,o1,o1,o1,o1,o1] rfl (by kernel_rfl) rfl Ary rfl (Cp (v:=(iV ((Bp l ((Bp l ((tree ++ ([(⟨(t:Int),0,0⟩:FNode)]:List FNode))) ((Au l sets ((⟨(t:Int),true⟩:Found)))) ((left - (1 <<< t)))).1) ((Au l sets ((⟨(t:Int),false⟩:Found)))) ((left - (1 <<< t)))).2))) rfl) ?_
 refine Ec rfl ?_
 apply k36
 refine w_q rfl rfl fun K44 k44=>?_
 refine l_M v42 rfl rfl ?_
 refine l_M (iV (((tree.length:Nat):Int))) rfl rfl ?_
 refine Aa rfl (Ah (v:=(iV ((t:Int)))) h11_11) ?_
 refine l_M (iV ((Bp l ((tree ++ ([(⟨(t:Int),0,0⟩:FNode)]:List FNode))) ((Au l sets ((⟨(t:Int),true⟩:Found)))) ((left - (1 <<< t)))).2)) rfl rfl ?_
 refine l_M (iV ((Bp l ((Bp l ((tree ++ ([(⟨(t:Int),0,0⟩:FNode)]:List FNode))) ((Au l sets ((⟨(t:Int),true⟩:Found)))) ((left - (1 <<< t)))).1) ((Au l sets ((⟨(t:Int),false⟩:Found)))) ((left - (1 <<< t)))).2)) rfl rfl ?_
 have r45:Val ρ42 (.agg #[(iV ((t:Int))),(iV ((Bp l ((tree ++ ([(⟨(t:Int),0,0⟩:FNode)]:List FNode))) ((Au l sets ((⟨(t:Int),true⟩:Found)))) ((left - (1 <<< t)))).2)),(iV ((Bp l ((Bp l ((tree ++ ([(⟨(t:Int),0,0⟩:FNode)]:List FNode))) ((Au l sets ((⟨(t:Int),true⟩:Found)))) ((left - (1 <<< t)))).1) ((Au l sets ((⟨(t:Int),false⟩:Found)))) ((left - (1 <<< t)))).2))]) (⟨(t:Int),(Bp l ((tree ++ ([(⟨(t:Int),0,0⟩:FNode)]:List FNode))) ((Au l sets ((⟨(t:Int),true⟩:Found)))) ((left - (1 <<< t)))).2,(Bp l ((Bp l ((tree ++ ([(⟨(t:Int),0,0⟩:FNode)]:List FNode))) ((Au l sets ((⟨(t:Int),true⟩:Found)))) ((left - (1 <<< t)))).1) ((Au l sets ((⟨(t:Int),false⟩:Found)))) ((left - (1 <<< t)))).2⟩:FNode):=FNode.shut (x:=(⟨(t:Int),(Bp l ((tree ++ ([(⟨(t:Int),0,0⟩:FNode)]:List FNode))) ((Au l sets ((⟨(t:Int),true⟩:Found)))) ((left - (1 <<< t)))).2,(Bp l ((Bp l ((tree ++ ([(⟨(t:Int),0,0⟩:FNode)]:List FNode))) ((Au l sets ((⟨(t:Int),true⟩:Found)))) ((left - (1 <<< t)))).1) ((Au l sets ((⟨(t:Int),false⟩:Found)))) ((left - (1 <<< t)))).2⟩:FNode)) (show I64 ((t:Int)) from by constructor <;> omega) (show I64 ((Bp l ((tree ++ ([(⟨(t:Int),0,0⟩:FNode)]:List FNode))) ((Au l sets ((⟨(t:Int),true⟩:Found)))) ((left - (1 <<< t)))).2) from by constructor <;> omega) (show I64 ((Bp l ((Bp l ((tree ++ ([(⟨(t:Int),0,0⟩:FNode)]:List FNode))) ((Au l sets ((⟨(t:Int),true⟩:Found)))) ((left - (1 <<< t)))).1) ((Au l sets ((⟨(t:Int),false⟩:Found)))) ((left - (1 <<< t)))).2) from by constructor <;> omega)
 refine Aa rfl (Dm (ns:=[1,1,1]) (vs:=[(0,(iV ((t:Int)))),(1,(iV ((Bp l ((tree ++ ([(⟨(t:Int),0,0⟩:FNode)]:List FNode))) ((Au l sets ((⟨(t:Int),true⟩:Found)))) ((left - (1 <<< t)))).2))),(2,(iV ((Bp l ((Bp l ((tree ++ ([(⟨(t:Int),0,0⟩:FNode)]:List FNode))) ((Au l sets ((⟨(t:Int),true⟩:Found)))) ((left - (1 <<< t)))).1) ((Au l sets ((⟨(t:Int),false⟩:Found)))) ((left - (1 <<< t)))).2)))]) (zc:=Aly) (cs:=[(iV ((t:Int))),(iV ((Bp l ((tree ++ ([(⟨(t:Int),0,0⟩:FNode)]:List FNode))) ((Au l sets ((⟨(t:Int),true⟩:Found)))) ((left - (1 <<< t)))).2)),(iV ((Bp l ((Bp l ((tree ++ ([(⟨(t:Int),0,0⟩:FNode)]:List FNode))) ((Au l sets ((⟨(t:Int),true⟩:Found)))) ((left - (1 <<< t)))).1) ((Au l sets ((⟨(t:Int),false⟩:Found)))) ((left - (1 <<< t)))).2))]) Tryd.underlying94 Aes rfl ⟨⟨_,Ab Tryd.typeInfo3,rfl⟩,⟨_,Ab Tryd.typeInfo3,rfl⟩,⟨_,Ab Tryd.typeInfo3,rfl⟩,trivial⟩ (EvB.map ⟨⟨rfl,rfl⟩,⟨rfl,rfl⟩,⟨rfl,rfl⟩,trivial⟩) ((Bd (cs:=[(iV ((t:Int)))]) rfl rfl (Nat.le_of_ble_eq_true rfl)).trans ((Bd (cs:=[(iV ((Bp l ((tree ++ ([(⟨(t:Int),0,0⟩:FNode)]:List FNode))) ((Au l sets ((⟨(t:Int),true⟩:Found)))) ((left - (1 <<< t)))).2))]) rfl rfl (Nat.le_of_ble_eq_true rfl)).trans ((Bd (cs:=[(iV ((Bp l ((Bp l ((tree ++ ([(⟨(t:Int),0,0⟩:FNode)]:List FNode))) ((Au l sets ((⟨(t:Int),true⟩:Found)))) ((left - (1 <<< t)))).1) ((Au l sets ((⟨(t:Int),false⟩:Found)))) ((left - (1 <<< t)))).2))]) rfl rfl (Nat.le_of_ble_eq_true rfl)).trans rfl)))) ?_
 refine Aa rfl (Nm tree.length Tryd.underlying49 ty94.info rfl G42 (q:=((tree.length:Nat):Int)) rfl rfl (by (try simp only [List.length_append,List.length_cons,List.length_nil] at *); omega) rfl) ?_
 refine Cx rfl (w_storeG (σ:=σ) (gr:=gr42) (i:=tree.length) (v:=v42) (w:=(.agg #[(iV ((t:Int))),(iV ((Bp l ((tree ++ ([(⟨(t:Int),0,0⟩:FNode)]:List FNode))) ((Au l sets ((⟨(t:Int),true⟩:Found)))) ((left - (1 <<< t)))).2)),(iV ((Bp l ((Bp l ((tree ++ ([(⟨(t:Int),0,0⟩:FNode)]:List FNode))) ((Au l sets ((⟨(t:Int),true⟩:Found)))) ((left - (1 <<< t)))).1) ((Au l sets ((⟨(t:Int),false⟩:Found)))) ((left - (1 <<< t)))).2))])) ty94.info rfl rfl rfl r45 G42 (by (try simp only [List.length_append,List.length_cons,List.length_nil] at *); omega) fun gr46 G46=>?_)
 apply Ac
 apply k44
 refine w_q rfl rfl fun K47 k47=>?_
 refine l_M v42 rfl rfl ?_
 refine l_M (iV (((tree.length:Nat):Int))) rfl rfl ?_
 refine l_A v42 rfl rfl ?_
 refine l_A (iV (((tree.length:Nat):Int))) rfl rfl ?_
 apply Ac
 apply k47
 refine Aq ?_
 refine hret _ _ _ ?_
 refine ⟨(Arz (Arz (Arz (Arz (Arz l2 l25) l33) l34) l41) l42),v42,gr46,Eq.trans (b:=.tuple #[v42,(iV (((tree.length:Nat):Int)))]) (Mk (r:=8) (r':=9) (rs:=[]) (v:=v42) (v':=(iV (((tree.length:Nat):Int)))) (vs:=[]) ⟨rfl,rfl,trivial⟩) ?_,rfl,Ga ?_ G46⟩
 ·rw [Hx hleft hd hset]
 ·rw [Hx hleft hd hset,← htt]; rfl
set_option maxRecDepth 100000 in
theorem c_refTree {mn:Bool} {X:Frame→List Frame→Ro→Own→Cy→Prop} {ρ:Ro} {σ:Own} {l:Lab} {vl vr:Value} {rs:List Found} (rl:Val ρ vl l) (rr:Val ρ vr rs):CallsH (CX mn X) 50 #[vl,vr] ρ σ (fun w ρ' σ'=>Ro.le ρ ρ'∧σ' = σ∧∃ v0,w = (.tuple #[v0,(iV (Xx l rs)),(.bool (Yl l rs)),(iV (Cw l rs))])∧Val ρ' v0 (Za l rs:List FNode)):=by
 refine Bh (n:=43) (args:=[vl,vr]) [4,5,6,7] Tryd.func50 rfl rfl rfl rfl fun Q hret hnor=>?_
 refine w_q rfl rfl fun K1 k1=>?_
 refine Ae rfl (Eb (v:=vl) rfl fun k2=>?_)
 refine Bb (a:=l) rl fun ρ2 l2 r2=>?_
 replace rl:=Asa l2 rl
 replace rr:=Asa l2 rr
 refine l_A (.slice none 0 0) rfl rfl ?_
 refine l_A (iV (0)) rfl rfl ?_
 refine l_A (.bool (false)) rfl rfl ?_
 refine l_A (iV (0)) rfl rfl ?_
 apply Ac
 apply k1
 refine Ai fun K3 k3=>?_
 refine w_q rfl rfl fun K4 k4=>?_
 refine Ak rfl (Ax Aaj rfl r2) fun v5 r5=>?_
 refine l_M vr rfl rfl ?_
 refine Ae rfl (Bn (vs:=[v5,vr]) (v:=(iV (Cw l rs))) (c_refCheckResults r5 rr) Tryd.func24 rfl rfl ⟨rfl,rfl,trivial⟩ ?_)
 refine l_A (iV (Cw l rs)) rfl rfl ?_
 apply Ac
 apply k4
 refine w_q rfl rfl fun K6 k6=>?_
 refine l_M (iV (Cw l rs)) rfl rfl ?_
 refine Aa rfl (Dg (p:=Cw l rs) (q:=0) rfl rfl) ?_
 apply Ac
 apply k6
 refine As (t:=Cw l rs != 0) rfl (fun b7=>?_) (fun b7=>?_)
 ·have q7:=Mb b7
  refine w_q rfl rfl fun K8 k8=>?_
  refine l_M (iV (Cw l rs)) rfl rfl ?_
  refine l_A (.slice none 0 0) rfl rfl ?_
  refine l_A (iV (0)) rfl rfl ?_
  refine l_A (.bool (false)) rfl rfl ?_
  refine l_A (iV (Cw l rs)) rfl rfl ?_
  apply Ac
  apply k8
  refine Aq ?_
  refine hret _ _ _ ?_
  refine ⟨l2,rfl,(.slice none 0 0),Eq.trans (b:=(.tuple #[(.slice none 0 0),(iV (0)),(.bool (false)),(iV (Cw l rs))])) (Mk (r:=4) (r':=5) (rs:=[6,7]) (v:=(.slice none 0 0)) (v':=(iV (0))) (vs:=[(.bool (false)),(iV (Cw l rs))]) ⟨rfl,rfl,rfl,rfl,trivial⟩) ?_,Val.cast ?_ Gx⟩
  ·rw [Xx,Yl,if_neg q7,if_neg q7]
  ·rw [Za,if_neg q7]
 have q7:=Jh b7
 refine Al ?_
 apply k3
 refine w_q rfl rfl fun K9 k9=>?_
 refine Ak rfl (Ax Aaj rfl r2) fun v10 r10=>?_
 refine l_M vr rfl rfl ?_
 obtain ⟨ok,hrs,hr8⟩:=Aou (Xz q7)
 have hnt:=ok.ntests
 have hsh:=Ame hnt
 have hl31:1 <<< l.tests.length - 1 < 32:=by omega
 have hle:=encR_le (l:=l) (sets:=Ba l rs) hl31
 refine Ae rfl (Cm (vs:=[v10,vr]) (c_refRemain r10 rr ok hrs) Tryd.func55 rfl rfl ⟨rfl,rfl,trivial⟩ fun v11 ρ11 σ11 hc11=>?_)
 obtain ⟨l11,s11,r11⟩:=hc11
 replace s11:=s11.symm; subst s11
 replace rr:=Asa l11 rr
 replace r2:=Arv l11 r2
 replace r10:=Asa l11 r10
 refine l_A v11 rfl rfl ?_
 apply Ac
 apply k9
 refine w_q rfl rfl fun K12 k12=>?_
 refine Ak rfl (Ay Lab.f_tests Tryd.underlying40 rfl rfl Vd (by decide) rfl r2) fun v13 r13=>?_
 refine Ak rfl (Ax Vd rfl r13) fun v14 r14=>?_
 have g15:=Val.len r14
 refine Aa rfl (Ce (el:=108) Tryd.underlying38 rfl r14) ?_
 refine Aa rfl (Ly (p:=1) (q:=l.tests.length) rfl rfl rfl (by omega) (z:=(((1 <<< l.tests.length):Nat):Int)) (Bo rfl (by omega) (by omega))) ?_
 refine Aa rfl (Oq (p:=(((1 <<< l.tests.length):Nat):Int)) (q:=1) rfl rfl (z:=((((1 <<< l.tests.length) - 1):Nat):Int)) (Bo (by omega) (by omega) (by omega))) ?_
 refine l_A (iV (((((1 <<< l.tests.length) - 1):Nat):Int))) rfl rfl ?_
 apply Ac
 apply k12
 refine w_q rfl rfl fun K16 k16=>?_
 refine Ak rfl (Ax Aaj rfl r2) fun v17 r17=>?_
 refine l_M v11 rfl rfl ?_
 refine l_M (iV (((((1 <<< l.tests.length) - 1):Nat):Int))) rfl rfl ?_
 refine Ae rfl (Bn (vs:=[v17,v11,(iV (((((1 <<< l.tests.length) - 1):Nat):Int)))]) (v:=(iV (Jt (dep l ((Ba l rs)) (((1 <<< l.tests.length) - 1)))))) (c_refdepth r17 r11 ok (Rz ok) (by omega)) Tryd.func102 rfl rfl ⟨rfl,rfl,rfl,trivial⟩ ?_)
 refine l_A (iV (Jt (dep l ((Ba l rs)) (((1 <<< l.tests.length) - 1))))) rfl rfl ?_
 apply Ac
 apply k16
 refine Ai fun K18 k18=>?_
 refine w_q rfl rfl fun K19 k19=>?_
 refine l_M (iV (Jt (dep l ((Ba l rs)) (((1 <<< l.tests.length) - 1))))) rfl rfl ?_
 refine Aa rfl (Da (p:=Jt (dep l ((Ba l rs)) (((1 <<< l.tests.length) - 1)))) (q:=0) rfl rfl) ?_
 apply Ac
 apply k19
 refine As (t:=decide (Jt (dep l ((Ba l rs)) (((1 <<< l.tests.length) - 1))) < 0)) rfl (fun b20=>?_) (fun b20=>?_)
 ·have q20:=of_decide_eq_true b20
  refine w_q rfl rfl fun K21 k21=>?_
  refine l_A (.slice none 0 0) rfl rfl ?_
  refine l_A (iV (0)) rfl rfl ?_
  refine l_A (.bool (false)) rfl rfl ?_
  refine l_A (iV (0)) rfl rfl ?_
  apply Ac
  apply k21
  refine Aq ?_
  refine hret _ _ _ ?_
  refine ⟨(Arz l2 l11),rfl,(.slice none 0 0),Eq.trans (b:=(.tuple #[(.slice none 0 0),(iV (0)),(.bool (false)),(iV (0))])) (Mk (r:=4) (r':=5) (rs:=[6,7]) (v:=(.slice none 0 0)) (v':=(iV (0))) (vs:=[(.bool (false)),(iV (0))]) ⟨rfl,rfl,rfl,rfl,trivial⟩) ?_,Val.cast ?_ Gx⟩
  ·have hx:dep l (Ba l rs) (1 <<< l.tests.length - 1) = none:=by cases hx:dep l (Ba l rs) (1 <<< l.tests.length - 1) with | none=>rfl | some d=>(rw [hx] at q20; simp only [Jt] at q20; omega)
   rw [Xx,Yl,if_pos q7,if_pos q7,hx,q7]; rfl
  ·have hx:dep l (Ba l rs) (1 <<< l.tests.length - 1) = none:=by cases hx:dep l (Ba l rs) (1 <<< l.tests.length - 1) with | none=>rfl | some d=>(rw [hx] at q20; simp only [Jt] at q20; omega)
   rw [Za,if_pos q7,hx]
 have q20:=of_decide_eq_false b20
 refine Al ?_
 apply k18
 refine w_q rfl rfl fun K22 k22=>?_
 refine Ak rfl (Ax Aaj rfl r2) fun v23 r23=>?_
 refine l_M v11 rfl rfl ?_
 refine l_M (iV (((((1 <<< l.tests.length) - 1):Nat):Int))) rfl rfl ?_
 obtain ⟨d0,hd0⟩:∃ d,dep l (Ba l rs) (1 <<< l.tests.length - 1) = some d:=by cases hx:dep l (Ba l rs) (1 <<< l.tests.length - 1) with | none=>(rw [hx] at q20; simp [Jt] at q20) | some d=>exact ⟨d,rfl⟩
 have hpw:2 ^ (De (1 <<< l.tests.length - 1) + 1) ≤ 2 ^ 6:=Nat.pow_le_pow_right (by omega) (by have:=Lg hl31; omega)
 refine Ae rfl (Cm (vs:=[v23,(.slice none 0 0),v11,(iV (((((1 <<< l.tests.length) - 1):Nat):Int)))]) (c_refgrown (σ:=σ) (gr:=[]) (tree:=[]) (sets:=Ba l rs) r23 Hn r11 ok (Rz ok) (by omega) hd0 (by simp only [List.length_nil]; omega)) Tryd.func103 rfl rfl ⟨rfl,rfl,rfl,rfl,trivial⟩ fun w24 ρ24 σ24 hc24=>?_)
 obtain ⟨l24,v24,gr24,w24e,s24,G24⟩:=hc24
 subst s24 w24e
 replace r2:=Arv l24 r2
 replace r11:=Asa l24 r11
 replace r23:=Asa l24 r23
 refine l_M (.tuple #[v24,(iV ((Bp l [] (Ba l rs) (1 <<< l.tests.length - 1)).2))]) rfl rfl ?_
 refine Aa rfl (Bk (vs:=#[v24,(iV ((Bp l [] (Ba l rs) (1 <<< l.tests.length - 1)).2))]) rfl (v:=v24) rfl) ?_
 refine Aa rfl (Bk (vs:=#[v24,(iV ((Bp l [] (Ba l rs) (1 <<< l.tests.length - 1)).2))]) rfl (v:=(iV ((Bp l [] (Ba l rs) (1 <<< l.tests.length - 1)).2))) rfl) ?_
 refine l_A v24 rfl rfl ?_
 refine l_A (iV ((Bp l [] (Ba l rs) (1 <<< l.tests.length - 1)).2)) rfl rfl ?_
 apply Ac
 apply k22
 refine w_q rfl rfl fun K25 k25=>?_
 refine l_M v24 rfl rfl ?_
 refine l_M (iV (Jt (dep l ((Ba l rs)) (((1 <<< l.tests.length) - 1))))) rfl rfl ?_
 refine l_A v24 rfl rfl ?_
 refine l_A (iV (Jt (dep l ((Ba l rs)) (((1 <<< l.tests.length) - 1))))) rfl rfl ?_
 refine l_A (.bool (true)) rfl rfl ?_
 refine l_A (iV (0)) rfl rfl ?_
 apply Ac
 apply k25
 refine Gy G24 fun ρ26 l26 r26=>?_
 refine Aq ?_
 refine hret _ _ _ ?_
 refine ⟨(Arz (Arz (Arz l2 l11) l24) l26),rfl,v24,Eq.trans (b:=(.tuple #[v24,(iV (Jt (dep l ((Ba l rs)) (((1 <<< l.tests.length) - 1))))),(.bool (true)),(iV (0))])) (Mk (r:=4) (r':=5) (rs:=[6,7]) (v:=v24) (v':=(iV (Jt (dep l ((Ba l rs)) (((1 <<< l.tests.length) - 1)))))) (vs:=[(.bool (true)),(iV (0))]) ⟨rfl,rfl,rfl,rfl,trivial⟩) ?_,Val.cast ?_ r26⟩
 ·rw [Xx,Yl,if_pos q7,if_pos q7,hd0,q7]; rfl
 ·rw [Za,if_pos q7,hd0]
set_option maxRecDepth 100000 in
theorem c_refends {mn:Bool} {X:Frame→List Frame→Ro→Own→Cy→Prop} {ρ:Ro} {σ:Own} {l:Lab} {vl vt vs:Value} {tree:List FNode} {at_:Int} {sets:List Nat} {k:Nat} (hat:-1 ≤ at_∧at_ < 1000000) (hk:(at_ = -1∧k = 0)∨(0 ≤ at_∧k = tree.length - at_.toNat)) (rl:Val ρ vl l) (rt:Val ρ vt tree) (rs:Val ρ vs (Bw sets)) (ok:LabOk l) (ok2:NodeOk l tree) (hs:sets.Sublist (List.range 16)) (htl:tree.length ≤ 1000000):CallsH (CX mn X) 106 #[vl,vt,(iV (at_)),vs] ρ σ (fun w ρ' σ'=>ρ' = ρ∧σ' = σ∧w = (.bool (endsF l tree at_ sets))):=by
 induction k using Nat.strongRecOn generalizing at_ sets vl vt vs ρ σ
 rename_i k ih
 have hil:=Fe (l:=sets)
 refine Bh (n:=53) (args:=[vl,vt,(iV (at_)),vs]) [8] Tryd.func106 rfl rfl rfl rfl fun Q hret hnor=>?_
 refine w_q rfl rfl fun K1 k1=>?_
 refine Ae rfl (Eb (v:=vl) rfl fun k2=>?_)
 refine Bb (a:=l) rl fun ρ2 l2 r2=>?_
 replace rl:=Asa l2 rl
 replace rt:=Asa l2 rt
 replace rs:=Asa l2 rs
 refine l_A (.bool (false)) rfl rfl ?_
 apply Ac
 apply k1
 refine Ai fun K3 k3=>?_
 refine w_q rfl rfl fun K4 k4=>?_
 refine l_M (iV (at_)) rfl rfl ?_
 refine Aa rfl (Da (p:=at_) (q:=0) rfl rfl) ?_
 refine l_M (.bool (decide (at_ < 0))) rfl rfl ?_
 refine Cn (decide (at_ < 0)) (fun b5=>?_) (fun b5=>?_)
 ·have q5:=of_decide_eq_true b5
  refine Ap (Bl rfl rfl rfl b5) ?_
  refine Ap (Bl rfl rfl rfl b5) ?_
  refine Ap (Bl rfl rfl rfl b5) ?_
  refine Ap (Bl rfl rfl rfl b5) ?_
  refine Aa rfl (Bt rfl b5 (v:=(.bool (true))) rfl) ?_
  refine l_M (.bool (true)) rfl rfl ?_
  refine Ap (Bl rfl rfl rfl rfl) ?_
  refine Ap (Bl rfl rfl rfl rfl) ?_
  refine Ap (Bl rfl rfl rfl rfl) ?_
  refine Aa rfl (Bt rfl rfl (v:=(.bool (true))) rfl) ?_
  apply Ac
  apply k4
  refine Co rfl rfl ?_
  refine w_q rfl rfl fun K6 k6=>?_
  refine l_M vs rfl rfl ?_
  refine Ae rfl (Bn (vs:=[vs]) (v:=(.bool (Dz (Bw sets)))) (c_Settled rs) Tryd.func56 rfl rfl ⟨rfl,trivial⟩ ?_)
  refine l_A (.bool (Dz (Bw sets))) rfl rfl ?_
  apply Ac
  apply k6
  refine Aj (Arw l2) ?_
  refine Aq ?_
  refine hret _ _ _ ?_
  refine ⟨rfl,rfl,Eq.trans (b:=(.bool (Dz (Bw sets)))) rfl ?_⟩
  rw [ends_end (.inl q5)]
 have q5:=of_decide_eq_false b5
 refine l_M (iV (at_)) (Ar rfl rfl rfl b5) rfl ?_
 refine l_M vt (Ar rfl rfl rfl b5) rfl ?_
 have g7:=Val.len rt
 refine Aa (Ar rfl rfl rfl b5) (Ce (el:=94) Tryd.underlying49 rfl rt) ?_
 refine Aa (Ar rfl rfl rfl b5) (Uv (p:=at_) (q:=((tree.length:Nat):Int)) rfl rfl) ?_
 refine Aa rfl (Bm rfl b5 (v:=(.bool (decide (at_ ≥ ((tree.length:Nat):Int))))) rfl) ?_
 refine l_M (.bool (decide (at_ ≥ ((tree.length:Nat):Int)))) rfl rfl ?_
 refine Cn (decide (at_ ≥ ((tree.length:Nat):Int))) (fun b8=>?_) (fun b8=>?_)
 ·have q8:=of_decide_eq_true b8
  refine Ap (Bl rfl rfl rfl b8) ?_
  refine Ap (Bl rfl rfl rfl b8) ?_
  refine Ap (Bl rfl rfl rfl b8) ?_
  refine Aa rfl (Bt rfl b8 (v:=(.bool (true))) rfl) ?_
  apply Ac
  apply k4
  refine Co rfl rfl ?_
  refine w_q rfl rfl fun K9 k9=>?_
  refine l_M vs rfl rfl ?_
  refine Ae rfl (Bn (vs:=[vs]) (v:=(.bool (Dz (Bw sets)))) (c_Settled rs) Tryd.func56 rfl rfl ⟨rfl,trivial⟩ ?_)
  refine l_A (.bool (Dz (Bw sets))) rfl rfl ?_
  apply Ac
  apply k9
  refine Aj (Arw l2) ?_
  refine Aq ?_
  refine hret _ _ _ ?_
  refine ⟨rfl,rfl,Eq.trans (b:=(.bool (Dz (Bw sets)))) rfl ?_⟩
  rw [ends_end (.inr (.inl q8))]
 have q8:=of_decide_eq_false b8
 refine l_M vs (Ar rfl rfl rfl b8) rfl ?_
 have g10:=Val.len rs
 refine Aa (Ar rfl rfl rfl b8) (Ce (el:=3) Tryd.underlying30 rfl rs) ?_
 refine Aa (Ar rfl rfl rfl b8) (Ek (p:=(((Bw sets).length:Nat):Int)) (q:=0) rfl rfl) ?_
 refine Aa rfl (Bm rfl b8 (v:=(.bool ((((Bw sets).length:Nat):Int) == 0))) rfl) ?_
 apply Ac
 apply k4
 refine As (t:=(((Bw sets).length:Nat):Int) == 0) rfl (fun b11=>?_) (fun b11=>?_)
 ·have q11:=Jo b11
  refine w_q rfl rfl fun K12 k12=>?_
  refine l_M vs rfl rfl ?_
  refine Ae rfl (Bn (vs:=[vs]) (v:=(.bool (Dz (Bw sets)))) (c_Settled rs) Tryd.func56 rfl rfl ⟨rfl,trivial⟩ ?_)
  refine l_A (.bool (Dz (Bw sets))) rfl rfl ?_
  apply Ac
  apply k12
  refine Aj (Arw l2) ?_
  refine Aq ?_
  refine hret _ _ _ ?_
  refine ⟨rfl,rfl,Eq.trans (b:=(.bool (Dz (Bw sets)))) rfl ?_⟩
  rw [ends_end (.inr (.inr (List.eq_nil_of_length_eq_zero (by omega))))]
 have q11:=La b11
 refine Al ?_
 apply k3
 refine w_q rfl rfl fun K13 k13=>?_
 refine l_M vt rfl rfl ?_
 refine l_M (iV (at_)) rfl rfl ?_
 obtain ⟨a15,ha15⟩:=Ed (xs:=tree) (i:=(at_).toNat) (by omega)
 have nt_a15:=ok2.test _ _ ha15
 have nf_a15:=ok2.found _ _ ha15
 have nn_a15:=ok2.not _ _ ha15
 refine Ak rfl (Ci ((at_).toNat) Tryd.underlying49 ty94 rfl rt (q:=at_) rfl (by omega) ha15) fun v14 r14=>?_
 refine Ak rfl (Ax ty94 rfl r14) fun v16 r16=>?_
 refine Ae rfl (Ct Aes fun k17=>?_)
 refine Cx rfl (Du (v:=v16) (a:=a15) (c:=Aly) ty94 rfl rfl r16 rfl ?_)
 refine Bb (a:=a15) r16 fun ρ18 l18 r18=>?_
 replace rt:=Asa l18 rt
 replace rs:=Asa l18 rs
 replace r2:=Arv l18 r2
 replace r14:=Arv l18 r14
 replace r16:=Asa l18 r16
 apply Ac
 apply k13
 refine Ai fun K19 k19=>?_
 refine Dc [0,1,2,3,4,5,6,7,8,9,10,11,12,13,14,15,16,17,18,19,20,21,22,23,24] (by kernel_rfl) rfl rfl ?_
 refine Cd (i:=0) [o1,o0,o0,o0,o0,o0,o0,o0,o0,o0,o0,o0,o0,o0,o0,o0,o0,o0,o0,o0,o0,o0,o0,o0,o0] rfl (by kernel_rfl) rfl Ary rfl (Ax Aaj rfl r2) fun v20 r20=>?_
 refine Be (i:=1) [o1,o1,o0,o0,o0,o0,o0,o0,o0,o0,o0,o0,o0,o0,o0,o0,o0,o0,o0,o0,o0,o0,o0,o0,o0] rfl (by kernel_rfl) rfl Ary rfl (Ah (v:=vt) rfl) ?_
 refine Cd (i:=2) [o1,o1,o1,o0,o0,o0,o0,o0,o0,o0,o0,o0,o0,o0,o0,o0,o0,o0,o0,o0,o0,o0,o0,o0,o0] rfl (by kernel_rfl) rfl Ary rfl (Ay FNode.f_found Tryd.underlying94 rfl rfl ty3 (by decide) rfl r18) fun v21 r21=>?_
 have ⟨g22a,g22b⟩:=At.rng r21
 refine Be (i:=3) [o1,o1,o1,o1,o0,o0,o0,o0,o0,o0,o0,o0,o0,o0,o0,o0,o0,o0,o0,o0,o0,o0,o0,o0,o0] rfl (by kernel_rfl) rfl Ary rfl (Bc ty3 rfl r21) ?_
 refine Cd (i:=4) [o1,o1,o1,o1,o1,o0,o0,o0,o0,o0,o0,o0,o0,o0,o0,o0,o0,o0,o0,o0,o0,o0,o0,o0,o0] rfl (by kernel_rfl) rfl Ary rfl (Ax Aaj rfl r2) fun v23 r23=>?_
 refine Be (i:=5) [o1,o1,o1,o1,o1,o1,o0,o0,o0,o0,o0,o0,o0,o0,o0,o0,o0,o0,o0,o0,o0,o0,o0,o0,o0] rfl (by kernel_rfl) rfl Ary rfl (Ah (v:=vs) rfl) ?_
 refine Hl (i:=6) [o1,o1,o1,o1,o1,o1,o1,o0,o0,o0,o0,o0,o0,o0,o0,o0,o0,o0,o0,o0,o0,o0,o0,o0,o0] rfl (by kernel_rfl) rfl Ary rfl (Ay FNode.f_test Tryd.underlying94 rfl rfl ty3 (by decide) rfl r18) fun v24 r24=>?_
 have ⟨g25a,g25b⟩:=At.rng r24
 refine Bg (i:=7) [o1,o1,o1,o1,o1,o1,o1,o1,o0,o0,o0,o0,o0,o0,o0,o0,o0,o0,o0,o0,o0,o0,o0,o0,o0] rfl (by kernel_rfl) rfl Ary rfl (Bc ty3 rfl r24) ?_
 have r26:Val ρ18 (.agg #[(iV (a15.test)),(.bool (true))]) (⟨a15.test,true⟩:Found):=Found.shut (x:=(⟨a15.test,true⟩:Found)) (show I64 (a15.test) from by constructor <;> omega)
 refine Bg (i:=8) [o1,o1,o1,o1,o1,o1,o1,o1,o1,o0,o0,o0,o0,o0,o0,o0,o0,o0,o0,o0,o0,o0,o0,o0,o0] rfl (by kernel_rfl) rfl Ary rfl (Dm (ns:=[1,1]) (vs:=[(0,(iV (a15.test))),(1,(.bool (true)))]) (zc:=Alq) (cs:=[(iV (a15.test)),(.bool (true))]) Tryd.underlying43 Ahd rfl ⟨⟨_,Ab Tryd.typeInfo3,rfl⟩,⟨_,Ab Tryd.typeInfo4,rfl⟩,trivial⟩ (EvB.map ⟨⟨rfl,rfl⟩,⟨rfl,rfl⟩,trivial⟩) ((Bd (cs:=[(iV (a15.test))]) rfl rfl (Nat.le_of_ble_eq_true rfl)).trans ((Bd (cs:=[(.bool (true))]) rfl rfl (Nat.le_of_ble_eq_true rfl)).trans rfl))) ?_
 have ha27:=Abx hs
 refine Dj (i:=9) [o1,o1,o1,o1,o1,o1,o1,o1,o1,o1,o0,o0,o0,o0,o0,o0,o0,o0,o0,o0,o0,o0,o0,o0,o0] rfl (by kernel_rfl) rfl rfl (Cm (vs:=[v23,vs,(.agg #[(iV (a15.test)),(.bool (true))])]) (c_refafter (sets:=sets) r23 rs r26 nt_a15 ha27.1 ha27.2) Tryd.func108 rfl rfl ⟨rfl,rfl,rfl,trivial⟩ fun v28 ρ28 σ28 hc28=>?_)
 obtain ⟨l28,s28,r28⟩:=hc28
 replace s28:=s28.symm; subst s28
 replace rt:=Asa l28 rt
 replace rs:=Asa l28 rs
 replace r2:=Arv l28 r2
 replace r18:=Arv l28 r18
 replace r20:=Asa l28 r20
 replace r21:=Arv l28 r21
 replace r23:=Asa l28 r23
 replace r24:=Arv l28 r24
 replace r26:=Asa l28 r26
 refine ⟨l28,?_⟩
 refine Dj (i:=10) [o1,o1,o1,o1,o1,o1,o1,o1,o1,o1,o1,o0,o0,o0,o0,o0,o0,o0,o0,o0,o0,o0,o0,o0,o0] rfl (by kernel_rfl) rfl rfl (Bn (vs:=[v20,vt,(iV (a15.found)),v28]) (v:=(.bool (endsF l tree a15.found ((Au l sets ((⟨a15.test,true⟩:Found))))))) (ih (if a15.found < 0 then 0 else tree.length - (a15.found).toNat) (by split <;> omega) (at_:=a15.found) (sets:=(Au l sets ((⟨a15.test,true⟩:Found)))) (by omega) (by split <;> omega) r20 rt r28 (Abt hs)) Tryd.func106 rfl rfl ⟨rfl,rfl,rfl,rfl,trivial⟩ ⟨l28,?_⟩)
 refine Bg (i:=11) [o1,o1,o1,o1,o1,o1,o1,o1,o1,o1,o1,o1,o0,o0,o0,o0,o0,o0,o0,o0,o0,o0,o0,o0,o0] rfl (by kernel_rfl) rfl l28 rfl (Ah (v:=(.bool (endsF l tree a15.found ((Au l sets ((⟨a15.test,true⟩:Found))))))) rfl) ?_
 refine Akl (endsF l tree a15.found ((Au l sets ((⟨a15.test,true⟩:Found))))) (fun b29=>?_) (fun b29=>?_)
 ·refine Qq (by kernel_rfl) l28 Ary ?_
  refine Cd (i:=12) [o1,o1,o1,o1,o1,o1,o1,o1,o1,o1,o1,o1,o1,o0,o0,o0,o0,o0,o0,o0,o0,o0,o0,o0,o0] rfl (by kernel_rfl) rfl Ary (Ar rfl rfl rfl b29) (Ax Aaj rfl r2) fun v30 r30=>?_
  refine Be (i:=13) [o1,o1,o1,o1,o1,o1,o1,o1,o1,o1,o1,o1,o1,o1,o0,o0,o0,o0,o0,o0,o0,o0,o0,o0,o0] rfl (by kernel_rfl) rfl Ary (Ar rfl rfl rfl b29) (Ah (v:=vt) rfl) ?_
  refine Cd (i:=14) [o1,o1,o1,o1,o1,o1,o1,o1,o1,o1,o1,o1,o1,o1,o1,o0,o0,o0,o0,o0,o0,o0,o0,o0,o0] rfl (by kernel_rfl) rfl Ary (Ar rfl rfl rfl b29) (Ay FNode.f_not Tryd.underlying94 rfl rfl ty3 (by decide) rfl r18) fun v31 r31=>?_
  have ⟨g32a,g32b⟩:=At.rng r31
  refine Be (i:=15) [o1,o1,o1,o1,o1,o1,o1,o1,o1,o1,o1,o1,o1,o1,o1,o1,o0,o0,o0,o0,o0,o0,o0,o0,o0] rfl (by kernel_rfl) rfl Ary (Ar rfl rfl rfl b29) (Bc ty3 rfl r31) ?_
  refine Cd (i:=16) [o1,o1,o1,o1,o1,o1,o1,o1,o1,o1,o1,o1,o1,o1,o1,o1,o1,o0,o0,o0,o0,o0,o0,o0,o0] rfl (by kernel_rfl) rfl Ary (Ar rfl rfl rfl b29) (Ax Aaj rfl r2) fun v33 r33=>?_
  refine Be (i:=17) [o1,o1,o1,o1,o1,o1,o1,o1,o1,o1,o1,o1,o1,o1,o1,o1,o1,o1,o0,o0,o0,o0,o0,o0,o0] rfl (by kernel_rfl) rfl Ary (Ar rfl rfl rfl b29) (Ah (v:=vs) rfl) ?_
  refine Hl (i:=18) [o1,o1,o1,o1,o1,o1,o1,o1,o1,o1,o1,o1,o1,o1,o1,o1,o1,o1,o1,o0,o0,o0,o0,o0,o0] rfl (by kernel_rfl) rfl Ary (Ar rfl rfl rfl b29) (Ay FNode.f_test Tryd.underlying94 rfl rfl ty3 (by decide) rfl r18) fun v34 r34=>?_
  have ⟨g35a,g35b⟩:=At.rng r34
  refine Bg (i:=19) [o1,o1,o1,o1,o1,o1,o1,o1,o1,o1,o1,o1,o1,o1,o1,o1,o1,o1,o1,o1,o0,o0,o0,o0,o0] rfl (by kernel_rfl) rfl Ary (Ar rfl rfl rfl b29) (Bc ty3 rfl r34) ?_
  have r36:Val ρ28 (.agg #[(iV (a15.test)),(.bool (false))]) (⟨a15.test,false⟩:Found):=Found.shut (x:=(⟨a15.test,false⟩:Found)) (show I64 (a15.test) from by constructor <;> omega)
  refine Bg (i:=20) [o1,o1,o1,o1,o1,o1,o1,o1,o1,o1,o1,o1,o1,o1,o1,o1,o1,o1,o1,o1,o1,o0,o0,o0,o0] rfl (by kernel_rfl) rfl Ary (Ar rfl rfl rfl b29) (Dm (ns:=[1,1]) (vs:=[(0,(iV (a15.test)))]) (zc:=Alq) (cs:=[(iV (a15.test)),(.bool (false))]) Tryd.underlying43 Ahd rfl ⟨⟨_,Ab Tryd.typeInfo3,rfl⟩,⟨_,Ab Tryd.typeInfo4,rfl⟩,trivial⟩ (EvB.map ⟨⟨rfl,rfl⟩,trivial⟩) ((Bd (cs:=[(iV (a15.test))]) rfl rfl (Nat.le_of_ble_eq_true rfl)).trans rfl)) ?_
  have ha37:=Abx hs
  refine Dj (i:=21) [o1,o1,o1,o1,o1,o1,o1,o1,o1,o1,o1,o1,o1,o1,o1,o1,o1,o1,o1,o1,o1,o1,o0,o0,o0] rfl (by kernel_rfl) rfl (Ar rfl rfl rfl b29) (Cm (vs:=[v33,vs,(.agg #[(iV (a15.test)),(.bool (false))])]) (c_refafter (sets:=sets) r33 rs r36 nt_a15 ha37.1 ha37.2) Tryd.func108 rfl rfl ⟨rfl,rfl,rfl,trivial⟩ fun v38 ρ38 σ38 hc38=>?_)
  obtain ⟨l38,s38,r38⟩:=hc38
  replace s38:=s38.symm; subst s38
  replace rt:=Asa l38 rt
  replace rs:=Asa l38 rs
  replace r2:=Arv l38 r2
  replace r18:=Arv l38 r18
  replace r20:=Asa l38 r20
  replace r21:=Arv l38 r21
  replace r23:=Asa l38 r23
  replace r24:=Arv l38 r24
  replace r26:=Asa l38 r26
  replace r28:=Asa l38 r28
  replace r30:=Asa l38 r30
  replace r31:=Arv l38 r31
  replace r33:=Asa l38 r33
  replace r34:=Arv l38 r34
  replace r36:=Asa l38 r36
  refine ⟨l38,?_⟩
  refine Dj (i:=22) [o1,o1,o1,o1,o1,o1,o1,o1,o1,o1,o1,o1,o1,o1,o1,o1,o1,o1,o1,o1,o1,o1,o1,o0,o0] rfl (by kernel_rfl) rfl (Ar rfl rfl rfl b29) (Bn (vs:=[v30,vt,(iV (a15.not)),v38]) (v:=(.bool (endsF l tree a15.not ((Au l sets ((⟨a15.test,false⟩:Found))))))) (ih (if a15.not < 0 then 0 else tree.length - (a15.not).toNat) (by split <;> omega) (at_:=a15.not) (sets:=(Au l sets ((⟨a15.test,false⟩:Found)))) (by omega) (by split <;> omega) r30 rt r38 (Abt hs)) Tryd.func106 rfl rfl ⟨rfl,rfl,rfl,rfl,trivial⟩ ⟨l38,?_⟩)
  refine Bg (i:=23) [o1,o1,o1,o1,o1,o1,o1,o1,o1,o1,o1,o1,o1,o1,o1,o1,o1,o1,o1,o1,o1,o1,o1,o1,o0] rfl (by kernel_rfl) rfl l38 rfl (Bt rfl b29 (v:=(.bool (endsF l tree a15.not ((Au l sets ((⟨a15.test,false⟩:Found))))))) rfl) ?_
  refine Bg (i:=24) [o1,o1,o1,o1,o1,o1,o1,o1,o1,o1,o1,o1,o1,o1,o1,o1,o1,o1,o1,o1,o1,o1,o1,o1,o1] rfl (by kernel_rfl) rfl l38 rfl (Cp (v:=(.bool (endsF l tree a15.not ((Au l sets ((⟨a15.test,false⟩:Found))))))) rfl) ?_
  refine Ec rfl ?_
  apply k19
  refine Aj (Arw (Arz (Arz (Arz l2 l18) l28) l38)) ?_
  refine Aq ?_
  refine hret _ _ _ ?_
  refine ⟨rfl,rfl,Eq.trans (b:=(.bool (endsF l tree a15.not ((Au l sets ((⟨a15.test,false⟩:Found))))))) rfl ?_⟩
  rw [ends_step ok2 (fun h=>h.elim q5 fun h=>h.elim q8 fun h=>q11 (by rw [h]; rfl)) ha15,b29,Bool.true_and]
 refine Ua (i:=12) [o1,o1,o1,o1,o1,o1,o1,o1,o1,o1,o1,o1,o1,o0,o0,o0,o0,o0,o0,o0,o0,o0,o0,o0,o0] rfl (by kernel_rfl) rfl l28 (Bl rfl rfl rfl b29) ?_
 refine Ua (i:=13) [o1,o1,o1,o1,o1,o1,o1,o1,o1,o1,o1,o1,o1,o1,o0,o0,o0,o0,o0,o0,o0,o0,o0,o0,o0] rfl (by kernel_rfl) rfl l28 (Bl rfl rfl rfl b29) ?_
 refine Ua (i:=14) [o1,o1,o1,o1,o1,o1,o1,o1,o1,o1,o1,o1,o1,o1,o1,o0,o0,o0,o0,o0,o0,o0,o0,o0,o0] rfl (by kernel_rfl) rfl l28 (Bl rfl rfl rfl b29) ?_
 refine Ua (i:=15) [o1,o1,o1,o1,o1,o1,o1,o1,o1,o1,o1,o1,o1,o1,o1,o1,o0,o0,o0,o0,o0,o0,o0,o0,o0] rfl (by kernel_rfl) rfl l28 (Bl rfl rfl rfl b29) ?_
 refine Ua (i:=16) [o1,o1,o1,o1,o1,o1,o1,o1,o1,o1,o1,o1,o1,o1,o1,o1,o1,o0,o0,o0,o0,o0,o0,o0,o0] rfl (by kernel_rfl) rfl l28 (Bl rfl rfl rfl b29) ?_
 refine Ua (i:=17) [o1,o1,o1,o1,o1,o1,o1,o1,o1,o1,o1,o1,o1,o1,o1,o1,o1,o1,o0,o0,o0,o0,o0,o0,o0] rfl (by kernel_rfl) rfl l28 (Bl rfl rfl rfl b29) ?_
 refine Xl (i:=18) [o1,o1,o1,o1,o1,o1,o1,o1,o1,o1,o1,o1,o1,o1,o1,o1,o1,o1,o1,o0,o0,o0,o0,o0,o0] rfl (by kernel_rfl) rfl l28 (Bl rfl rfl rfl b29) ?_
 refine Xl (i:=19) [o1,o1,o1,o1,o1,o1,o1,o1,o1,o1,o1,o1,o1,o1,o1,o1,o1,o1,o1,o1,o0,o0,o0,o0,o0] rfl (by kernel_rfl) rfl l28 (Bl rfl rfl rfl b29) ?_
 refine Xl (i:=20) [o1,o1,o1,o1,o1,o1,o1,o1,o1,o1,o1,o1,o1,o1,o1,o1,o1,o1,o1,o1,o1,o0,o0,o0,o0] rfl (by kernel_rfl) rfl l28 (Bl rfl rfl rfl b29) ?_
 refine Xl (i:=21) [o1,o1,o1,o1,o1,o1,o1,o1,o1,o1,o1,o1,o1,o1,o1,o1,o1,o1,o1,o1,o1,o1,o0,o0,o0] rfl (by kernel_rfl) rfl l28 (Bl rfl rfl rfl b29) ?_
 refine Xl (i:=22) [o1,o1,o1,o1,o1,o1,o1,o1,o1,o1,o1,o1,o1,o1,o1,o1,o1,o1,o1,o1,o1,o1,o1,o0,o0] rfl (by kernel_rfl) rfl l28 (Bl rfl rfl rfl b29) ?_
 refine Bg (i:=23) [o1,o1,o1,o1,o1,o1,o1,o1,o1,o1,o1,o1,o1,o1,o1,o1,o1,o1,o1,o1,o1,o1,o1,o1,o0] rfl (by kernel_rfl) rfl l28 rfl (Bm rfl b29 (v:=(.bool (false))) rfl) ?_
 refine Bg (i:=24) [o1,o1,o1,o1,o1,o1,o1,o1,o1,o1,o1,o1,o1,o1,o1,o1,o1,o1,o1,o1,o1,o1,o1,o1,o1] rfl (by kernel_rfl) rfl l28 rfl (Cp (v:=(.bool (false))) rfl) ?_
 refine Ec rfl ?_
 apply k19
 refine Aj (Arw (Arz (Arz l2 l18) l28)) ?_
 refine Aq ?_
 refine hret _ _ _ ?_
 refine ⟨rfl,rfl,Eq.trans (b:=(.bool (false))) rfl ?_⟩
 rw [ends_step ok2 (fun h=>h.elim q5 fun h=>h.elim q8 fun h=>q11 (by rw [h]; rfl)) ha15,b29]; rfl
set_option maxRecDepth 100000 in
theorem c_refSettles {mn:Bool} {X:Frame→List Frame→Ro→Own→Cy→Prop} {ρ:Ro} {σ:Own} {l:Lab} {vl vr vt:Value} {rs:List Found} {tree:List FNode} (rl:Val ρ vl l) (rr:Val ρ vr rs) (rt:Val ρ vt tree) (htl:tree.length ≤ 1000000):CallsH (CX mn X) 53 #[vl,vr,vt] ρ σ (fun w ρ' σ'=>ρ' = ρ∧σ' = σ∧w = (.tuple #[(.bool (setlB l rs tree)),(iV (setlF l rs tree))])):=by
 refine Bh (n:=28) (args:=[vl,vr,vt]) [6,7] Tryd.func53 rfl rfl rfl rfl fun Q hret hnor=>?_
 refine w_q rfl rfl fun K1 k1=>?_
 refine Ae rfl (Eb (v:=vl) rfl fun k2=>?_)
 refine Bb (a:=l) rl fun ρ2 l2 r2=>?_
 replace rl:=Asa l2 rl
 replace rr:=Asa l2 rr
 replace rt:=Asa l2 rt
 refine l_A (.bool (false)) rfl rfl ?_
 refine l_A (iV (0)) rfl rfl ?_
 apply Ac
 apply k1
 refine Ai fun K3 k3=>?_
 refine w_q rfl rfl fun K4 k4=>?_
 refine Ak rfl (Ax Aaj rfl r2) fun v5 r5=>?_
 refine l_M vr rfl rfl ?_
 refine Ae rfl (Bn (vs:=[v5,vr]) (v:=(iV (Cw l rs))) (c_refCheckResults r5 rr) Tryd.func24 rfl rfl ⟨rfl,rfl,trivial⟩ ?_)
 refine l_A (iV (Cw l rs)) rfl rfl ?_
 apply Ac
 apply k4
 refine w_q rfl rfl fun K6 k6=>?_
 refine l_M (iV (Cw l rs)) rfl rfl ?_
 refine Aa rfl (Dg (p:=Cw l rs) (q:=0) rfl rfl) ?_
 apply Ac
 apply k6
 refine As (t:=Cw l rs != 0) rfl (fun b7=>?_) (fun b7=>?_)
 ·have q7:=Mb b7
  refine w_q rfl rfl fun K8 k8=>?_
  refine l_M (iV (Cw l rs)) rfl rfl ?_
  refine l_A (.bool (false)) rfl rfl ?_
  refine l_A (iV (Cw l rs)) rfl rfl ?_
  apply Ac
  apply k8
  refine Aj (Arw l2) ?_
  refine Aq ?_
  refine hret _ _ _ ?_
  refine ⟨rfl,rfl,Eq.trans (b:=(.tuple #[(.bool (false)),(iV (Cw l rs))])) (Mk (r:=6) (r':=7) (rs:=[]) (v:=(.bool (false))) (v':=(iV (Cw l rs))) (vs:=[]) ⟨rfl,rfl,trivial⟩) ?_⟩
  have hf:setlF l rs tree = Cw l rs:=by rw [setlF,Rx q7]
  rw [hf,setlB,hf,if_neg q7]
 have q7:=Jh b7
 refine Al ?_
 apply k3
 refine Ai fun K9 k9=>?_
 refine w_q rfl rfl fun K10 k10=>?_
 refine Ak rfl (Ax Aaj rfl r2) fun v11 r11=>?_
 refine l_M vt rfl rfl ?_
 refine Ae rfl (Bn (vs:=[v11,vt]) (v:=(iV (treeF l tree))) (c_CheckTree r11 rt) Tryd.func57 rfl rfl ⟨rfl,rfl,trivial⟩ ?_)
 refine l_A (iV (treeF l tree)) rfl rfl ?_
 apply Ac
 apply k10
 refine w_q rfl rfl fun K12 k12=>?_
 refine l_M (iV (treeF l tree)) rfl rfl ?_
 refine Aa rfl (Dg (p:=treeF l tree) (q:=0) rfl rfl) ?_
 apply Ac
 apply k12
 refine As (t:=treeF l tree != 0) rfl (fun b13=>?_) (fun b13=>?_)
 ·have q13:=Mb b13
  refine w_q rfl rfl fun K14 k14=>?_
  refine l_M (iV (treeF l tree)) rfl rfl ?_
  refine l_A (.bool (false)) rfl rfl ?_
  refine l_A (iV (treeF l tree)) rfl rfl ?_
  apply Ac
  apply k14
  refine Aj (Arw l2) ?_
  refine Aq ?_
  refine hret _ _ _ ?_
  refine ⟨rfl,rfl,Eq.trans (b:=(.tuple #[(.bool (false)),(iV (treeF l tree))])) (Mk (r:=6) (r':=7) (rs:=[]) (v:=(.bool (false))) (v':=(iV (treeF l tree))) (vs:=[]) ⟨rfl,rfl,trivial⟩) ?_⟩
  have hf:setlF l rs tree = treeF l tree:=by rw [setlF,Gt q7]
  rw [hf,setlB,hf,if_neg q13]
 have q13:=Jh b13
 refine Al ?_
 apply k9
 refine Ai fun K15 k15=>?_
 refine Dc [0,1,2,3,4,5,6,7] (by kernel_rfl) rfl rfl ?_
 refine Cd (i:=0) [o1,o0,o0,o0,o0,o0,o0,o0] rfl (by kernel_rfl) rfl Ary rfl (Ax Aaj rfl r2) fun v16 r16=>?_
 refine Be (i:=1) [o1,o1,o0,o0,o0,o0,o0,o0] rfl (by kernel_rfl) rfl Ary rfl (Ah (v:=vt) rfl) ?_
 refine Cd (i:=2) [o1,o1,o1,o0,o0,o0,o0,o0] rfl (by kernel_rfl) rfl Ary rfl (Ax Aaj rfl r2) fun v17 r17=>?_
 refine Bg (i:=3) [o1,o1,o1,o1,o0,o0,o0,o0] rfl (by kernel_rfl) rfl Ary rfl (Ah (v:=vr) rfl) ?_
 obtain ⟨ok,hrs,hr8⟩:=Aou (Xz q7)
 have ok2:=treeF_0 q13
 refine Dj (i:=4) [o1,o1,o1,o1,o1,o0,o0,o0] rfl (by kernel_rfl) rfl rfl (Cm (vs:=[v17,vr]) (c_refRemain r17 rr ok hrs) Tryd.func55 rfl rfl ⟨rfl,rfl,trivial⟩ fun v18 ρ18 σ18 hc18=>?_)
 obtain ⟨l18,s18,r18⟩:=hc18
 replace s18:=s18.symm; subst s18
 replace rr:=Asa l18 rr
 replace rt:=Asa l18 rt
 replace r2:=Arv l18 r2
 replace r16:=Asa l18 r16
 replace r17:=Asa l18 r17
 refine ⟨l18,?_⟩
 refine Dj (i:=5) [o1,o1,o1,o1,o1,o1,o0,o0] rfl (by kernel_rfl) rfl rfl (Bn (vs:=[v16,vt,(iV (0)),v18]) (v:=(.bool (endsF l tree 0 ((Ba l rs))))) (c_refends (k:=if (0:Int) < 0 then 0 else tree.length - (0:Int).toNat) (at_:=0) (sets:=(Ba l rs)) (by omega) (by first | (split <;> omega) | simp) r16 rt r18 ok ok2 (Rz ok) (by omega)) Tryd.func106 rfl rfl ⟨rfl,rfl,rfl,rfl,trivial⟩ ⟨l18,?_⟩)
 refine Bg (i:=6) [o1,o1,o1,o1,o1,o1,o1,o0] rfl (by kernel_rfl) rfl l18 rfl (Cp (v:=(.bool (endsF l tree 0 ((Ba l rs))))) rfl) ?_
 refine Bg (i:=7) [o1,o1,o1,o1,o1,o1,o1,o1] rfl (by kernel_rfl) rfl l18 rfl (Cp (v:=(iV (0))) rfl) ?_
 refine Ec rfl ?_
 apply k15
 refine Aj (Arw (Arz l2 l18)) ?_
 refine Aq ?_
 refine hret _ _ _ ?_
 refine ⟨rfl,rfl,Eq.trans (b:=(.tuple #[(.bool (endsF l tree 0 ((Ba l rs)))),(iV (0))])) (Mk (r:=6) (r':=7) (rs:=[]) (v:=(.bool (endsF l tree 0 ((Ba l rs))))) (v':=(iV (0))) (vs:=[]) ⟨rfl,rfl,trivial⟩) ?_⟩
 have hf:setlF l rs tree = 0:=by rw [setlF,Gt q7,q13]
 rw [hf,setlB,if_pos hf]
end Go.Proofs.YtoefdnbaklajeaaDoor

namespace Go.Proofs.YtoefdnbaklajeaaDoor
open Go
section
variable {C:Ctx} {e:Env} {ds:List Deferred} {ρ:Ro} {σ:Own} {K:Value→List Deferred→Ro→Own→Prop} {rd:Option Nat} {dd:Option Tmp}
variable {ty:TypeId} {pos:String} {af:Array Edge} {g:Option (Nat × Bool)} {x y:Operand} {v:Value} {t t':TypeId}
end
section
variable {C:Ctx} {e:Env} {ds:List Deferred} {ρ:Ro} {σ:Own} {K:Value→List Deferred→Ro→Own→Prop} {rd:Option Nat} {dd:Option Tmp}
variable {ty:TypeId} {pos:String} {af:Array Edge} {g:Option (Nat × Bool)} {x y:Operand} {v:Value} {t t':TypeId}
end
def zc166:List Value:=[.map none]
theorem zr166:Gc Tryd.prog 166 (.map none):=⟨_,Ab Tryd.typeInfo166,rfl⟩
theorem ty167:GoTy Tryd.prog 167 RawV:=⟨⟨_,Tryd.underlying167,rfl⟩,⟨_,Ab Tryd.typeInfo167,rfl⟩⟩
theorem ty166:GoTy Tryd.prog 166 MapRef:=⟨⟨_,Tryd.underlying166,rfl⟩,⟨_,Ab Tryd.typeInfo166,rfl⟩⟩
end Go.Proofs.YtoefdnbaklajeaaDoor

namespace Go.Proofs.YtoefdnbaklajeaaDoor
open Go
def PlaceV (l:Lab) (tree:List FNode) (a b:Int) (w:Value):Prop:=∃ (at_:Int) (s:Nat),a = at_∧b = (s:Int)∧w = .bool (endsF l tree at_ (Av s))
theorem link_not {c i n:Int}:((c != -1) && !inR c i n) = !(c == -1 || inR c i n):=by
 cases h:c == -1 <;> simp [bne,h]
theorem i64_of {x:Int} (h1:-9223372036854775808 ≤ x) (h2:x ≤ 9223372036854775807):I64 x:=⟨h1,by omega⟩
theorem val_map {ρ:Ro} {r:Nat}:Val ρ (.map (some r)) (⟨r⟩:MapRef):=⟨[.map (some r)],rfl,rfl⟩
theorem placeV_get {l:Lab} {tree:List FNode} {a:Int} {s:Nat} {w:Value} (h:PlaceV l tree a (s:Int) w):w = .bool (endsF l tree a (Av s)):=by
 obtain ⟨a',s',h1,h2,h3⟩:=h
 obtain rfl:s = s':=by omega
 rw [h1]; exact h3
set_option maxRecDepth 100000 in
theorem c_links {mn:Bool} {X:Frame→List Frame→Ro→Own→Cy→Prop} {ρ:Ro} {σ:Own} {vpt:Value} {tree:List FNode} {c:Int} {i:Nat} (rpt:At ρ vpt tree) (hc:I64 c) (hi:i < 1000000) (htl:tree.length ≤ 1000000):CallsH (CX mn X) 104 #[(iV (c)),(iV ((i:Int))),vpt] ρ σ (fun w ρ' σ'=>ρ' = ρ∧σ' = σ∧w = (.bool (c == -1 || inR c ((i + 1:Nat):Int) ((tree.length:Int) - 1)))):=by
 obtain ⟨hc1,hc2⟩:=hc
 refine Bh (n:=17) (args:=[(iV (c)),(iV ((i:Int))),vpt]) [5] Tryd.func104 rfl rfl rfl rfl fun Q hret hnor=>?_
 refine w_q rfl rfl fun K1 k1=>?_
 refine l_A (.bool (false)) rfl rfl ?_
 apply Ac
 apply k1
 refine w_q rfl rfl fun K2 k2=>?_
 refine l_M (iV (c)) rfl rfl ?_
 refine Aa rfl (Ek (p:=c) (q:=(-1)) rfl rfl) ?_
 refine l_M (.bool (c == (-1))) rfl rfl ?_
 refine Cn (c == (-1)) (fun b3=>?_) (fun b3=>?_)
 ·have q3:=Jo b3
  refine Ap (Bl rfl rfl rfl b3) ?_
  refine Ap (Bl rfl rfl rfl b3) ?_
  refine Ap (Bl rfl rfl rfl b3) ?_
  refine Ap (Bl rfl rfl rfl b3) ?_
  refine Ap (Bl rfl rfl rfl b3) ?_
  refine Ap (Bl rfl rfl rfl b3) ?_
  refine Ap (Bl rfl rfl rfl b3) ?_
  refine Aa rfl (Bt rfl b3 (v:=(.bool (true))) rfl) ?_
  refine l_A (.bool (true)) rfl rfl ?_
  apply Ac
  apply k2
  refine Aq ?_
  refine hret _ _ _ ?_
  refine ⟨rfl,rfl,Eq.trans (b:=(.bool (true))) rfl ?_⟩
  rw [b3]; rfl
 have q3:=La b3
 refine l_M (iV (c)) (Ar rfl rfl rfl b3) rfl ?_
 refine l_M (iV ((i:Int))) (Ar rfl rfl rfl b3) rfl ?_
 refine Aa (Ar rfl rfl rfl b3) (Br (p:=(i:Int)) (q:=1) rfl rfl (z:=(((i + 1):Nat):Int)) (Bo (by first | rfl | omega | (push_cast; rfl)) (by omega) (by omega))) ?_
 refine Ak (Ar rfl rfl rfl b3) (Ax ty49 rfl rpt) fun v4 r4=>?_
 have g5:=Val.len r4
 refine Aa (Ar rfl rfl rfl b3) (Ce (el:=94) Tryd.underlying49 rfl r4) ?_
 refine Aa (Ar rfl rfl rfl b3) (Oq (p:=((tree.length:Nat):Int)) (q:=1) rfl rfl (z:=(((tree.length:Nat):Int) - 1)) (Bo (by first | rfl | omega | (push_cast; rfl)) (by omega) (by omega))) ?_
 refine Ae (Ar rfl rfl rfl b3) (Bn (vs:=[(iV (c)),(iV ((((i + 1):Nat):Int))),(iV ((((tree.length:Nat):Int) - 1)))]) (v:=(.bool (inR c ((((i + 1):Nat):Int)) ((((tree.length:Nat):Int) - 1))))) (Jn) Tryd.func92 rfl rfl ⟨rfl,rfl,rfl,trivial⟩ ?_)
 refine Aa rfl (Bm rfl b3 (v:=(.bool (inR c ((((i + 1):Nat):Int)) ((((tree.length:Nat):Int) - 1))))) rfl) ?_
 refine l_A (.bool (inR c ((((i + 1):Nat):Int)) ((((tree.length:Nat):Int) - 1)))) rfl rfl ?_
 apply Ac
 apply k2
 refine Aq ?_
 refine hret _ _ _ ?_
 refine ⟨rfl,rfl,Eq.trans (b:=(.bool (inR c ((((i + 1):Nat):Int)) ((((tree.length:Nat):Int) - 1))))) rfl ?_⟩
 rw [b3,Bool.false_or]
set_option maxRecDepth 100000 in
theorem c_endsP {mn:Bool} {X:Frame→List Frame→Ro→Own→Cy→Prop} {ρ:Ro} {σ:Own} {l:Lab} {vpt vpm vpf vpb:Value} {tree:List FNode} {at_:Int} {s k rq rm:Nat} {es:Array MapEntry} {ck:Nat} (hg:Glob ρ) (hat:-1 ≤ at_∧at_ < 1000000) (hk:(at_ = -1∧k = 0)∨(0 ≤ at_∧k = tree.length - at_.toNat)) (rpt:At ρ vpt tree) (rpm:At ρ vpm (⟨rq⟩:MapRef)) (rpf:At ρ vpf (RawV.mk (.func (.func 105) #[] #[vpt,vpm,vpf,vpb]))) (rpb:At ρ vpb (Ptr.mk (⟨l.tests.map Dr,((Bf (Hk l):Nat):Int),⟨rm⟩⟩:Bench):Ptr Bench)) (hs:s < 65536) (hM:Jv es (PlaceV l tree)) (hl:Gj l = 0) (ok2:NodeOk l tree) (htl:tree.length ≤ 1000000):CallsH (CX mn X) 105 #[(.agg #[.int .i64 at_,iV (s:Int)]),vpt,vpm,vpf,vpb] ρ (((rq,Res.obj (Obj.map es ck)) :: σ)) (fun w ρ' σ'=>ρ' = ρ∧∃ es' ck',w = .bool (endsF l tree at_ (Av s))∧σ' = (rq,.obj (.map es' ck')) :: σ∧Jv es' (PlaceV l tree)):=by
 induction k using Nat.strongRecOn generalizing at_ s vpt vpm vpf vpb ρ es ck
 rename_i k ih
 have rs0:Val ρ (.agg #[.int .i64 at_,iV (s:Int)]) (⟨at_,(s:Int)⟩:Place):=Place.shut (x:=(⟨at_,(s:Int)⟩:Place)) (show I64 at_ from by constructor <;> omega) (show I64 (s:Int) from by constructor <;> omega)
 refine Bh (n:=70) (args:=[(.agg #[.int .i64 at_,iV (s:Int)]),vpt,vpm,vpf,vpb]) [6] Tryd.func105 rfl rfl rfl rfl fun Q hret hnor=>?_
 refine w_q rfl rfl fun K1 k1=>?_
 refine Ae rfl (Eb (v:=(.agg #[.int .i64 at_,iV (s:Int)])) rfl fun k2=>?_)
 refine Bb (a:=(⟨at_,(s:Int)⟩:Place)) rs0 fun ρ2 l2 r2=>?_
 replace rs0:=Asa l2 rs0
 replace rpt:=Arv l2 rpt
 replace rpm:=Arv l2 rpm
 replace rpf:=Arv l2 rpf
 replace rpb:=Arv l2 rpb
 replace hg:=Glob.mono l2 hg
 refine l_A (.bool (false)) rfl rfl ?_
 apply Ac
 apply k1
 refine Ai fun K3 k3=>?_
 refine w_q rfl rfl fun K4 k4=>?_
 refine Ak rfl (Ay Place.f_at_ Tryd.underlying169 rfl rfl ty3 (by decide) rfl r2) fun v5 r5=>?_
 have ⟨g6a,g6b⟩:=At.rng r5
 refine Aa rfl (Bc ty3 rfl r5) ?_
 refine Aa rfl (Da (p:=at_) (q:=0) rfl rfl) ?_
 refine l_M (.bool (decide (at_ < 0))) rfl rfl ?_
 refine Cn (decide (at_ < 0)) (fun b7=>?_) (fun b7=>?_)
 ·have q7:=of_decide_eq_true b7
  refine Ap (Bl rfl rfl rfl b7) ?_
  refine Ap (Bl rfl rfl rfl b7) ?_
  refine Ap (Bl rfl rfl rfl b7) ?_
  refine Ap (Bl rfl rfl rfl b7) ?_
  refine Ap (Bl rfl rfl rfl b7) ?_
  refine Aa rfl (Bt rfl b7 (v:=(.bool (true))) rfl) ?_
  refine l_M (.bool (true)) rfl rfl ?_
  refine Ap (Bl rfl rfl rfl rfl) ?_
  refine Ap (Bl rfl rfl rfl rfl) ?_
  refine Ap (Bl rfl rfl rfl rfl) ?_
  refine Aa rfl (Bt rfl rfl (v:=(.bool (true))) rfl) ?_
  apply Ac
  apply k4
  refine Co rfl rfl ?_
  refine w_q rfl rfl fun K8 k8=>?_
  refine Ak rfl (Ay Place.f_sets Tryd.underlying169 rfl rfl Jg (by decide) rfl r2) fun v9 r9=>?_
  have ⟨g10a,g10b⟩:=At.rng r9
  refine Aa rfl (Bc Jg rfl r9) ?_
  refine Ae rfl (Bn (vs:=[(iV ((s:Int)))]) (v:=(.bool (Dz (Bw (Av s))))) (Ul (by omega)) Tryd.func74 rfl rfl ⟨rfl,trivial⟩ ?_)
  refine l_A (.bool (Dz (Bw (Av s)))) rfl rfl ?_
  apply Ac
  apply k8
  refine Aj (Arw l2) ?_
  refine Aq ?_
  refine hret _ _ _ ?_
  refine ⟨rfl,es,ck,Eq.trans (b:=(.bool (Dz (Bw (Av s))))) rfl ?_,rfl,hM⟩
  rw [ends_end (.inl q7)]
 have q7:=of_decide_eq_false b7
 refine Ak (Ar rfl rfl rfl b7) (Ay Place.f_at_ Tryd.underlying169 rfl rfl ty3 (by decide) rfl r2) fun v11 r11=>?_
 have ⟨g12a,g12b⟩:=At.rng r11
 refine Aa (Ar rfl rfl rfl b7) (Bc ty3 rfl r11) ?_
 refine Ak (Ar rfl rfl rfl b7) (Ax ty49 rfl rpt) fun v13 r13=>?_
 have g14:=Val.len r13
 refine Aa (Ar rfl rfl rfl b7) (Ce (el:=94) Tryd.underlying49 rfl r13) ?_
 refine Aa (Ar rfl rfl rfl b7) (Uv (p:=at_) (q:=((tree.length:Nat):Int)) rfl rfl) ?_
 refine Aa rfl (Bm rfl b7 (v:=(.bool (decide (at_ ≥ ((tree.length:Nat):Int))))) rfl) ?_
 refine l_M (.bool (decide (at_ ≥ ((tree.length:Nat):Int)))) rfl rfl ?_
 refine Cn (decide (at_ ≥ ((tree.length:Nat):Int))) (fun b15=>?_) (fun b15=>?_)
 ·have q15:=of_decide_eq_true b15
  refine Ap (Bl rfl rfl rfl b15) ?_
  refine Ap (Bl rfl rfl rfl b15) ?_
  refine Ap (Bl rfl rfl rfl b15) ?_
  refine Aa rfl (Bt rfl b15 (v:=(.bool (true))) rfl) ?_
  apply Ac
  apply k4
  refine Co rfl rfl ?_
  refine w_q rfl rfl fun K16 k16=>?_
  refine Ak rfl (Ay Place.f_sets Tryd.underlying169 rfl rfl Jg (by decide) rfl r2) fun v17 r17=>?_
  have ⟨g18a,g18b⟩:=At.rng r17
  refine Aa rfl (Bc Jg rfl r17) ?_
  refine Ae rfl (Bn (vs:=[(iV ((s:Int)))]) (v:=(.bool (Dz (Bw (Av s))))) (Ul (by omega)) Tryd.func74 rfl rfl ⟨rfl,trivial⟩ ?_)
  refine l_A (.bool (Dz (Bw (Av s)))) rfl rfl ?_
  apply Ac
  apply k16
  refine Aj (Arw l2) ?_
  refine Aq ?_
  refine hret _ _ _ ?_
  refine ⟨rfl,es,ck,Eq.trans (b:=(.bool (Dz (Bw (Av s))))) rfl ?_,rfl,hM⟩
  rw [ends_end (.inr (.inl q15))]
 have q15:=of_decide_eq_false b15
 refine Ak (Ar rfl rfl rfl b15) (Ay Place.f_sets Tryd.underlying169 rfl rfl Jg (by decide) rfl r2) fun v19 r19=>?_
 have ⟨g20a,g20b⟩:=At.rng r19
 refine Aa (Ar rfl rfl rfl b15) (Bc Jg rfl r19) ?_
 refine Aa (Ar rfl rfl rfl b15) (Ek (p:=(s:Int)) (q:=0) rfl rfl) ?_
 refine Aa rfl (Bm rfl b15 (v:=(.bool ((s:Int) == 0))) rfl) ?_
 apply Ac
 apply k4
 refine As (t:=(s:Int) == 0) rfl (fun b21=>?_) (fun b21=>?_)
 ·have q21:=Jo b21
  refine w_q rfl rfl fun K22 k22=>?_
  refine Ak rfl (Ay Place.f_sets Tryd.underlying169 rfl rfl Jg (by decide) rfl r2) fun v23 r23=>?_
  have ⟨g24a,g24b⟩:=At.rng r23
  refine Aa rfl (Bc Jg rfl r23) ?_
  refine Ae rfl (Bn (vs:=[(iV ((s:Int)))]) (v:=(.bool (Dz (Bw (Av s))))) (Ul (by omega)) Tryd.func74 rfl rfl ⟨rfl,trivial⟩ ?_)
  refine l_A (.bool (Dz (Bw (Av s)))) rfl rfl ?_
  apply Ac
  apply k22
  refine Aj (Arw l2) ?_
  refine Aq ?_
  refine hret _ _ _ ?_
  refine ⟨rfl,es,ck,Eq.trans (b:=(.bool (Dz (Bw (Av s))))) rfl ?_,rfl,hM⟩
  rw [ends_end (.inr (.inr (by rw [show s = 0 by omega]; rfl)))]
 have q21:=La b21
 refine Al ?_
 apply k3
 refine Ai fun K25 k25=>?_
 refine w_q rfl rfl fun K26 k26=>?_
 refine Aa rfl (Sy ty166 rfl rpm) ?_
 refine Ak rfl (Ax ty169 rfl r2) fun v28 r28=>?_
 obtain ⟨e29_,⟨i29_1a,i29_1b⟩,⟨i29_2a,i29_2b⟩⟩:=Place.open_ r28
 have e29_c:v28.cells = [(iV (at_)),(iV ((s:Int)))].toArray:=by rw [e29_]; rfl
 refine Ae rfl (Xm (i:=0) (kt:=169) (et:=4) (a:=at_) (b:=(s:Int)) Tryd.underlying166 key169 zr4 hM rfl (rfl.trans e29_) rfl ?_ fun w30 hw30=>?_)
 ·refine Aa rfl (Ah (v:=(.tuple #[(.bool (false)),(.bool (false))])) rfl) ?_
  refine Aa rfl (Bk (vs:=#[(.bool (false)),(.bool (false))]) rfl (v:=(.bool (false))) rfl) ?_
  refine Aa rfl (Bk (vs:=#[(.bool (false)),(.bool (false))]) rfl (v:=(.bool (false))) rfl) ?_
  refine l_A (.bool (false)) rfl rfl ?_
  refine l_A (.bool (false)) rfl rfl ?_
  apply Ac
  apply k26
  refine w_q rfl rfl fun K31 k31=>?_
  refine l_M (.bool (false)) rfl rfl ?_
  apply Ac
  apply k31
  refine Cg rfl rfl ?_
  refine Al ?_
  apply k25
  refine w_q rfl rfl fun K32 k32=>?_
  refine Ak rfl (Ax ty49 rfl rpt) fun v33 r33=>?_
  refine Ak rfl (Ay Place.f_at_ Tryd.underlying169 rfl rfl ty3 (by decide) rfl r2) fun v34 r34=>?_
  have ⟨g35a,g35b⟩:=At.rng r34
  refine Aa rfl (Bc ty3 rfl r34) ?_
  obtain ⟨a37,ha37⟩:=Ed (xs:=tree) (i:=(at_).toNat) (by omega)
  have nt_a37:=ok2.test _ _ ha37
  have nf_a37:=ok2.found _ _ ha37
  have nn_a37:=ok2.not _ _ ha37
  have hm_a37_true:=Er (l:=l) (s:=s) (r:=(⟨a37.test,true⟩:Found))
  have hm_a37_false:=Er (l:=l) (s:=s) (r:=(⟨a37.test,false⟩:Found))
  refine Ak rfl (Ci ((at_).toNat) Tryd.underlying49 ty94 rfl r33 (q:=at_) rfl (by omega) ha37) fun v36 r36=>?_
  refine Ak rfl (Ax ty94 rfl r36) fun v38 r38=>?_
  refine Ae rfl (Ct Aes fun k39=>?_)
  refine Cx rfl (Du (v:=v38) (a:=a37) (c:=Aly) ty94 rfl rfl r38 rfl ?_)
  refine Bb (a:=a37) r38 fun ρ40 l40 r40=>?_
  replace rpt:=Arv l40 rpt
  replace rpm:=Arv l40 rpm
  replace rpf:=Arv l40 rpf
  replace rpb:=Arv l40 rpb
  replace hg:=Glob.mono l40 hg
  replace r2:=Arv l40 r2
  replace r33:=Asa l40 r33
  replace r34:=Arv l40 r34
  replace r36:=Arv l40 r36
  replace r38:=Asa l40 r38
  apply Ac
  apply k32
  refine Ai fun K41 k41=>?_
  refine Dc [0,1,2,3,4,5,6,7,8,9,10,11,12,13,14,15,16,17,18,19,20,21,22,23,24] (by kernel_rfl) rfl rfl ?_
  refine Be (i:=0) [o1,o0,o0,o0,o0,o0,o0,o0,o0,o0,o0,o0,o0,o0,o0,o0,o0,o0,o0,o0,o0,o0,o0,o0,o0] rfl (by kernel_rfl) rfl Ary rfl (Lb ty167 rfl rpf) ?_
  refine Cd (i:=1) [o1,o1,o0,o0,o0,o0,o0,o0,o0,o0,o0,o0,o0,o0,o0,o0,o0,o0,o0,o0,o0,o0,o0,o0,o0] rfl (by kernel_rfl) rfl Ary rfl (Ay FNode.f_found Tryd.underlying94 rfl rfl ty3 (by decide) rfl r40) fun v43 r43=>?_
  have ⟨g44a,g44b⟩:=At.rng r43
  refine Be (i:=2) [o1,o1,o1,o0,o0,o0,o0,o0,o0,o0,o0,o0,o0,o0,o0,o0,o0,o0,o0,o0,o0,o0,o0,o0,o0] rfl (by kernel_rfl) rfl Ary rfl (Bc ty3 rfl r43) ?_
  refine Cd (i:=3) [o1,o1,o1,o1,o0,o0,o0,o0,o0,o0,o0,o0,o0,o0,o0,o0,o0,o0,o0,o0,o0,o0,o0,o0,o0] rfl (by kernel_rfl) rfl Ary rfl (Ax Sd rfl rpb) fun v45 r45=>?_
  replace r45:=Io.1 r45
  refine Cd (i:=4) [o1,o1,o1,o1,o1,o0,o0,o0,o0,o0,o0,o0,o0,o0,o0,o0,o0,o0,o0,o0,o0,o0,o0,o0,o0] rfl (by kernel_rfl) rfl Ary rfl (Ay Place.f_sets Tryd.underlying169 rfl rfl Jg (by decide) rfl r2) fun v46 r46=>?_
  have ⟨g47a,g47b⟩:=At.rng r46
  refine Be (i:=5) [o1,o1,o1,o1,o1,o1,o0,o0,o0,o0,o0,o0,o0,o0,o0,o0,o0,o0,o0,o0,o0,o0,o0,o0,o0] rfl (by kernel_rfl) rfl Ary rfl (Bc Jg rfl r46) ?_
  refine Hl (i:=6) [o1,o1,o1,o1,o1,o1,o1,o0,o0,o0,o0,o0,o0,o0,o0,o0,o0,o0,o0,o0,o0,o0,o0,o0,o0] rfl (by kernel_rfl) rfl Ary rfl (Ay FNode.f_test Tryd.underlying94 rfl rfl ty3 (by decide) rfl r40) fun v48 r48=>?_
  have ⟨g49a,g49b⟩:=At.rng r48
  refine Bg (i:=7) [o1,o1,o1,o1,o1,o1,o1,o1,o0,o0,o0,o0,o0,o0,o0,o0,o0,o0,o0,o0,o0,o0,o0,o0,o0] rfl (by kernel_rfl) rfl Ary rfl (Bc ty3 rfl r48) ?_
  refine Dj (i:=8) [o1,o1,o1,o1,o1,o1,o1,o1,o1,o0,o0,o0,o0,o0,o0,o0,o0,o0,o0,o0,o0,o0,o0,o0,o0] rfl (by kernel_rfl) rfl rfl (Bn (vs:=[v45,(iV ((s:Int))),(iV (a37.test)),(.bool (true))]) (v:=(iV (((Bf (Au l (Av s) ⟨a37.test,true⟩):Nat):Int)))) (Px hg r45 hl (by omega) (by omega)) Tryd.func76 rfl rfl ⟨rfl,rfl,rfl,rfl,trivial⟩ ⟨Ary,?_⟩)
  have r50:Val ρ40 (.agg #[(iV (a37.found)),(iV (((Bf (Au l (Av s) ⟨a37.test,true⟩):Nat):Int)))]) (⟨a37.found,((Bf (Au l (Av s) ⟨a37.test,true⟩):Nat):Int)⟩:Place):=Place.shut (x:=(⟨a37.found,((Bf (Au l (Av s) ⟨a37.test,true⟩):Nat):Int)⟩:Place)) (show I64 (a37.found) from by constructor <;> omega) (show I64 (((Bf (Au l (Av s) ⟨a37.test,true⟩):Nat):Int)) from by constructor <;> omega)
  refine Bg (i:=9) [o1,o1,o1,o1,o1,o1,o1,o1,o1,o1,o0,o0,o0,o0,o0,o0,o0,o0,o0,o0,o0,o0,o0,o0,o0] rfl (by kernel_rfl) rfl Ary rfl (Dm (ns:=[1,1]) (vs:=[(0,(iV (a37.found))),(1,(iV (((Bf (Au l (Av s) ⟨a37.test,true⟩):Nat):Int))))]) (zc:=zc169) (cs:=[(iV (a37.found)),(iV (((Bf (Au l (Av s) ⟨a37.test,true⟩):Nat):Int)))]) Tryd.underlying169 zr169 rfl ⟨⟨_,Ab Tryd.typeInfo3,rfl⟩,⟨_,Ab Tryd.typeInfo110,rfl⟩,trivial⟩ (EvB.map ⟨⟨rfl,rfl⟩,⟨rfl,rfl⟩,trivial⟩) ((Bd (cs:=[(iV (a37.found))]) rfl rfl (Nat.le_of_ble_eq_true rfl)).trans ((Bd (cs:=[(iV (((Bf (Au l (Av s) ⟨a37.test,true⟩):Nat):Int)))]) rfl rfl (Nat.le_of_ble_eq_true rfl)).trans rfl))) ?_
  refine Dj (i:=10) [o1,o1,o1,o1,o1,o1,o1,o1,o1,o1,o1,o0,o0,o0,o0,o0,o0,o0,o0,o0,o0,o0,o0,o0,o0] rfl (by kernel_rfl) rfl rfl (Si (vs:=[(.agg #[(iV (a37.found)),(iV (((Bf (Au l (Av s) ⟨a37.test,true⟩):Nat):Int)))])]) (caps:=[vpt,vpm,vpf,vpb]) rfl (ih (if a37.found < 0 then 0 else tree.length - (a37.found).toNat) (by split <;> omega) (at_:=a37.found) (s:=(Bf (Au l (Av s) ⟨a37.test,true⟩))) (es:=es) (ck:=ck) hg (by omega) (by split <;> omega) rpt rpm rpf rpb Er hM) Tryd.func105 rfl rfl ⟨rfl,trivial⟩ fun w51 ρ51 σ51 hc51=>?_)
  obtain ⟨hr51,es51,ck51,hw51,hs51,MM51⟩:=hc51
  replace hr51:=hr51.symm; subst hr51; subst hs51
  rw [Hj] at hw51
  subst hw51
  refine ⟨Ary,?_⟩
  refine Bg (i:=11) [o1,o1,o1,o1,o1,o1,o1,o1,o1,o1,o1,o1,o0,o0,o0,o0,o0,o0,o0,o0,o0,o0,o0,o0,o0] rfl (by kernel_rfl) rfl Ary rfl (Ah (v:=(.bool (endsF l tree a37.found ((Au l (Av s) ⟨a37.test,true⟩))))) rfl) ?_
  refine Akl (endsF l tree a37.found ((Au l (Av s) ⟨a37.test,true⟩))) (fun b52=>?_) (fun b52=>?_)
  ·refine Be (i:=12) [o1,o1,o1,o1,o1,o1,o1,o1,o1,o1,o1,o1,o1,o0,o0,o0,o0,o0,o0,o0,o0,o0,o0,o0,o0] rfl (by kernel_rfl) rfl Ary (Ar rfl rfl rfl b52) (Lb ty167 rfl rpf) ?_
   refine Cd (i:=13) [o1,o1,o1,o1,o1,o1,o1,o1,o1,o1,o1,o1,o1,o1,o0,o0,o0,o0,o0,o0,o0,o0,o0,o0,o0] rfl (by kernel_rfl) rfl Ary (Ar rfl rfl rfl b52) (Ay FNode.f_not Tryd.underlying94 rfl rfl ty3 (by decide) rfl r40) fun v54 r54=>?_
   have ⟨g55a,g55b⟩:=At.rng r54
   refine Be (i:=14) [o1,o1,o1,o1,o1,o1,o1,o1,o1,o1,o1,o1,o1,o1,o1,o0,o0,o0,o0,o0,o0,o0,o0,o0,o0] rfl (by kernel_rfl) rfl Ary (Ar rfl rfl rfl b52) (Bc ty3 rfl r54) ?_
   refine Cd (i:=15) [o1,o1,o1,o1,o1,o1,o1,o1,o1,o1,o1,o1,o1,o1,o1,o1,o0,o0,o0,o0,o0,o0,o0,o0,o0] rfl (by kernel_rfl) rfl Ary (Ar rfl rfl rfl b52) (Ax Sd rfl rpb) fun v56 r56=>?_
   replace r56:=Io.1 r56
   refine Cd (i:=16) [o1,o1,o1,o1,o1,o1,o1,o1,o1,o1,o1,o1,o1,o1,o1,o1,o1,o0,o0,o0,o0,o0,o0,o0,o0] rfl (by kernel_rfl) rfl Ary (Ar rfl rfl rfl b52) (Ay Place.f_sets Tryd.underlying169 rfl rfl Jg (by decide) rfl r2) fun v57 r57=>?_
   have ⟨g58a,g58b⟩:=At.rng r57
   refine Be (i:=17) [o1,o1,o1,o1,o1,o1,o1,o1,o1,o1,o1,o1,o1,o1,o1,o1,o1,o1,o0,o0,o0,o0,o0,o0,o0] rfl (by kernel_rfl) rfl Ary (Ar rfl rfl rfl b52) (Bc Jg rfl r57) ?_
   refine Hl (i:=18) [o1,o1,o1,o1,o1,o1,o1,o1,o1,o1,o1,o1,o1,o1,o1,o1,o1,o1,o1,o0,o0,o0,o0,o0,o0] rfl (by kernel_rfl) rfl Ary (Ar rfl rfl rfl b52) (Ay FNode.f_test Tryd.underlying94 rfl rfl ty3 (by decide) rfl r40) fun v59 r59=>?_
   have ⟨g60a,g60b⟩:=At.rng r59
   refine Bg (i:=19) [o1,o1,o1,o1,o1,o1,o1,o1,o1,o1,o1,o1,o1,o1,o1,o1,o1,o1,o1,o1,o0,o0,o0,o0,o0] rfl (by kernel_rfl) rfl Ary (Ar rfl rfl rfl b52) (Bc ty3 rfl r59) ?_
   refine Dj (i:=20) [o1,o1,o1,o1,o1,o1,o1,o1,o1,o1,o1,o1,o1,o1,o1,o1,o1,o1,o1,o1,o1,o0,o0,o0,o0] rfl (by kernel_rfl) rfl (Ar rfl rfl rfl b52) (Bn (vs:=[v56,(iV ((s:Int))),(iV (a37.test)),(.bool (false))]) (v:=(iV (((Bf (Au l (Av s) ⟨a37.test,false⟩):Nat):Int)))) (Px hg r56 hl (by omega) (by omega)) Tryd.func76 rfl rfl ⟨rfl,rfl,rfl,rfl,trivial⟩ ⟨Ary,?_⟩)
   have r61:Val ρ40 (.agg #[(iV (a37.not)),(iV (((Bf (Au l (Av s) ⟨a37.test,false⟩):Nat):Int)))]) (⟨a37.not,((Bf (Au l (Av s) ⟨a37.test,false⟩):Nat):Int)⟩:Place):=Place.shut (x:=(⟨a37.not,((Bf (Au l (Av s) ⟨a37.test,false⟩):Nat):Int)⟩:Place)) (show I64 (a37.not) from by constructor <;> omega) (show I64 (((Bf (Au l (Av s) ⟨a37.test,false⟩):Nat):Int)) from by constructor <;> omega)
   refine Bg (i:=21) [o1,o1,o1,o1,o1,o1,o1,o1,o1,o1,o1,o1,o1,o1,o1,o1,o1,o1,o1,o1,o1,o1,o0,o0,o0] rfl (by kernel_rfl) rfl Ary (Ar rfl rfl rfl b52) (Dm (ns:=[1,1]) (vs:=[(0,(iV (a37.not))),(1,(iV (((Bf (Au l (Av s) ⟨a37.test,false⟩):Nat):Int))))]) (zc:=zc169) (cs:=[(iV (a37.not)),(iV (((Bf (Au l (Av s) ⟨a37.test,false⟩):Nat):Int)))]) Tryd.underlying169 zr169 rfl ⟨⟨_,Ab Tryd.typeInfo3,rfl⟩,⟨_,Ab Tryd.typeInfo110,rfl⟩,trivial⟩ (EvB.map ⟨⟨rfl,rfl⟩,⟨rfl,rfl⟩,trivial⟩) ((Bd (cs:=[(iV (a37.not))]) rfl rfl (Nat.le_of_ble_eq_true rfl)).trans ((Bd (cs:=[(iV (((Bf (Au l (Av s) ⟨a37.test,false⟩):Nat):Int)))]) rfl rfl (Nat.le_of_ble_eq_true rfl)).trans rfl))) ?_
   refine Dj (i:=22) [o1,o1,o1,o1,o1,o1,o1,o1,o1,o1,o1,o1,o1,o1,o1,o1,o1,o1,o1,o1,o1,o1,o1,o0,o0] rfl (by kernel_rfl) rfl (Ar rfl rfl rfl b52) (Si (vs:=[(.agg #[(iV (a37.not)),(iV (((Bf (Au l (Av s) ⟨a37.test,false⟩):Nat):Int)))])]) (caps:=[vpt,vpm,vpf,vpb]) rfl (ih (if a37.not < 0 then 0 else tree.length - (a37.not).toNat) (by split <;> omega) (at_:=a37.not) (s:=(Bf (Au l (Av s) ⟨a37.test,false⟩))) (es:=es51) (ck:=ck51) hg (by omega) (by split <;> omega) rpt rpm rpf rpb Er MM51) Tryd.func105 rfl rfl ⟨rfl,trivial⟩ fun w62 ρ62 σ62 hc62=>?_)
   obtain ⟨hr62,es62,ck62,hw62,hs62,MM62⟩:=hc62
   replace hr62:=hr62.symm; subst hr62; subst hs62
   rw [Hj] at hw62
   subst hw62
   refine ⟨Ary,?_⟩
   refine Bg (i:=23) [o1,o1,o1,o1,o1,o1,o1,o1,o1,o1,o1,o1,o1,o1,o1,o1,o1,o1,o1,o1,o1,o1,o1,o1,o0] rfl (by kernel_rfl) rfl Ary rfl (Bt rfl b52 (v:=(.bool (endsF l tree a37.not ((Au l (Av s) ⟨a37.test,false⟩))))) rfl) ?_
   refine Bg (i:=24) [o1,o1,o1,o1,o1,o1,o1,o1,o1,o1,o1,o1,o1,o1,o1,o1,o1,o1,o1,o1,o1,o1,o1,o1,o1] rfl (by kernel_rfl) rfl Ary rfl (Cp (v:=(.bool (endsF l tree a37.not ((Au l (Av s) ⟨a37.test,false⟩))))) rfl) ?_
   refine Ec rfl ?_
   apply k41
   refine w_q rfl rfl fun K63 k63=>?_
   refine Aa rfl (Sy ty166 rfl rpm) ?_
   refine Ak rfl (Ax ty169 rfl r2) fun v65 r65=>?_
   refine l_M (.bool (endsF l tree a37.not ((Au l (Av s) ⟨a37.test,false⟩)))) rfl rfl ?_
   obtain ⟨e66_,⟨i66_1a,i66_1b⟩,⟨i66_2a,i66_2b⟩⟩:=Place.open_ r65
   have e66_c:v65.cells = [(iV (at_)),(iV ((s:Int)))].toArray:=by rw [e66_]; rfl
   refine Cx rfl (Afz (i:=0) (kt:=169) (et:=4) (a:=at_) (b:=(s:Int)) (w:=(.bool (endsF l tree a37.not ((Au l (Av s) ⟨a37.test,false⟩))))) Tryd.underlying166 key169 MM62 ⟨at_,s,rfl,rfl,by rw [ends_step ok2 (fun h=>h.elim q7 fun h=>h.elim q15 fun h=>q21 (by have h9:=Aaz hs; rw [h] at h9; rw [← h9]; rfl)) ha37,b52,Bool.true_and]⟩ rfl (rfl.trans e66_) rfl rfl fun es67 ck67 MM67=>?_)
   apply Ac
   apply k63
   refine w_q rfl rfl fun K68 k68=>?_
   refine l_M (.bool (endsF l tree a37.not ((Au l (Av s) ⟨a37.test,false⟩)))) rfl rfl ?_
   refine l_A (.bool (endsF l tree a37.not ((Au l (Av s) ⟨a37.test,false⟩)))) rfl rfl ?_
   apply Ac
   apply k68
   refine Aj (Arw (Arz l2 l40)) ?_
   refine Aq ?_
   refine hret _ _ _ ?_
   refine ⟨rfl,es67,ck67,Eq.trans (b:=(.bool (endsF l tree a37.not ((Au l (Av s) ⟨a37.test,false⟩))))) rfl ?_,rfl,MM67⟩
   rw [ends_step ok2 (fun h=>h.elim q7 fun h=>h.elim q15 fun h=>q21 (by have h9:=Aaz hs; rw [h] at h9; rw [← h9]; rfl)) ha37,b52,Bool.true_and]
  refine Ua (i:=12) [o1,o1,o1,o1,o1,o1,o1,o1,o1,o1,o1,o1,o1,o0,o0,o0,o0,o0,o0,o0,o0,o0,o0,o0,o0] rfl (by kernel_rfl) rfl Ary (Bl rfl rfl rfl b52) ?_
  refine Ua (i:=13) [o1,o1,o1,o1,o1,o1,o1,o1,o1,o1,o1,o1,o1,o1,o0,o0,o0,o0,o0,o0,o0,o0,o0,o0,o0] rfl (by kernel_rfl) rfl Ary (Bl rfl rfl rfl b52) ?_
  refine Ua (i:=14) [o1,o1,o1,o1,o1,o1,o1,o1,o1,o1,o1,o1,o1,o1,o1,o0,o0,o0,o0,o0,o0,o0,o0,o0,o0] rfl (by kernel_rfl) rfl Ary (Bl rfl rfl rfl b52) ?_
  refine Ua (i:=15) [o1,o1,o1,o1,o1,o1,o1,o1,o1,o1,o1,o1,o1,o1,o1,o1,o0,o0,o0,o0,o0,o0,o0,o0,o0] rfl (by kernel_rfl) rfl Ary (Bl rfl rfl rfl b52) ?_
  refine Ua (i:=16) [o1,o1,o1,o1,o1,o1,o1,o1,o1,o1,o1,o1,o1,o1,o1,o1,o1,o0,o0,o0,o0,o0,o0,o0,o0] rfl (by kernel_rfl) rfl Ary (Bl rfl rfl rfl b52) ?_
  refine Ua (i:=17) [o1,o1,o1,o1,o1,o1,o1,o1,o1,o1,o1,o1,o1,o1,o1,o1,o1,o1,o0,o0,o0,o0,o0,o0,o0] rfl (by kernel_rfl) rfl Ary (Bl rfl rfl rfl b52) ?_
  refine Xl (i:=18) [o1,o1,o1,o1,o1,o1,o1,o1,o1,o1,o1,o1,o1,o1,o1,o1,o1,o1,o1,o0,o0,o0,o0,o0,o0] rfl (by kernel_rfl) rfl Ary (Bl rfl rfl rfl b52) ?_
  refine Xl (i:=19) [o1,o1,o1,o1,o1,o1,o1,o1,o1,o1,o1,o1,o1,o1,o1,o1,o1,o1,o1,o1,o0,o0,o0,o0,o0] rfl (by kernel_rfl) rfl Ary (Bl rfl rfl rfl b52) ?_
  refine Xl (i:=20) [o1,o1,o1,o1,o1,o1,o1,o1,o1,o1,o1,o1,o1,o1,o1,o1,o1,o1,o1,o1,o1,o0,o0,o0,o0] rfl (by kernel_rfl) rfl Ary (Bl rfl rfl rfl b52) ?_
  refine Xl (i:=21) [o1,o1,o1,o1,o1,o1,o1,o1,o1,o1,o1,o1,o1,o1,o1,o1,o1,o1,o1,o1,o1,o1,o0,o0,o0] rfl (by kernel_rfl) rfl Ary (Bl rfl rfl rfl b52) ?_
  refine Xl (i:=22) [o1,o1,o1,o1,o1,o1,o1,o1,o1,o1,o1,o1,o1,o1,o1,o1,o1,o1,o1,o1,o1,o1,o1,o0,o0] rfl (by kernel_rfl) rfl Ary (Bl rfl rfl rfl b52) ?_
  refine Bg (i:=23) [o1,o1,o1,o1,o1,o1,o1,o1,o1,o1,o1,o1,o1,o1,o1,o1,o1,o1,o1,o1,o1,o1,o1,o1,o0] rfl (by kernel_rfl) rfl Ary rfl (Bm rfl b52 (v:=(.bool (false))) rfl) ?_
  refine Bg (i:=24) [o1,o1,o1,o1,o1,o1,o1,o1,o1,o1,o1,o1,o1,o1,o1,o1,o1,o1,o1,o1,o1,o1,o1,o1,o1] rfl (by kernel_rfl) rfl Ary rfl (Cp (v:=(.bool (false))) rfl) ?_
  refine Ec rfl ?_
  apply k41
  refine w_q rfl rfl fun K69 k69=>?_
  refine Aa rfl (Sy ty166 rfl rpm) ?_
  refine Ak rfl (Ax ty169 rfl r2) fun v71 r71=>?_
  refine l_M (.bool (false)) rfl rfl ?_
  obtain ⟨e72_,⟨i72_1a,i72_1b⟩,⟨i72_2a,i72_2b⟩⟩:=Place.open_ r71
  have e72_c:v71.cells = [(iV (at_)),(iV ((s:Int)))].toArray:=by rw [e72_]; rfl
  refine Cx rfl (Afz (i:=0) (kt:=169) (et:=4) (a:=at_) (b:=(s:Int)) (w:=(.bool (false))) Tryd.underlying166 key169 MM51 ⟨at_,s,rfl,rfl,by rw [ends_step ok2 (fun h=>h.elim q7 fun h=>h.elim q15 fun h=>q21 (by have h9:=Aaz hs; rw [h] at h9; rw [← h9]; rfl)) ha37,b52,Bool.false_and]⟩ rfl (rfl.trans e72_) rfl rfl fun es73 ck73 MM73=>?_)
  apply Ac
  apply k69
  refine w_q rfl rfl fun K74 k74=>?_
  refine l_M (.bool (false)) rfl rfl ?_
  refine l_A (.bool (false)) rfl rfl ?_
  apply Ac
  apply k74
  refine Aj (Arw (Arz l2 l40)) ?_
  refine Aq ?_
  refine hret _ _ _ ?_
  refine ⟨rfl,es73,ck73,Eq.trans (b:=(.bool (false))) rfl ?_,rfl,MM73⟩
  rw [ends_step ok2 (fun h=>h.elim q7 fun h=>h.elim q15 fun h=>q21 (by have h9:=Aaz hs; rw [h] at h9; rw [← h9]; rfl)) ha37,b52,Bool.false_and]
 obtain rfl:=placeV_get hw30
 refine l_M (.tuple #[(.bool (endsF l tree at_ (Av s))),(.bool (true))]) rfl rfl ?_
 refine Aa rfl (Bk (vs:=#[(.bool (endsF l tree at_ (Av s))),(.bool (true))]) rfl (v:=(.bool (endsF l tree at_ (Av s)))) rfl) ?_
 refine Aa rfl (Bk (vs:=#[(.bool (endsF l tree at_ (Av s))),(.bool (true))]) rfl (v:=(.bool (true))) rfl) ?_
 refine l_A (.bool (endsF l tree at_ (Av s))) rfl rfl ?_
 refine l_A (.bool (true)) rfl rfl ?_
 apply Ac
 apply k26
 refine w_q rfl rfl fun K75 k75=>?_
 refine l_M (.bool (true)) rfl rfl ?_
 apply Ac
 apply k75
 refine Co rfl rfl ?_
 refine w_q rfl rfl fun K76 k76=>?_
 refine l_M (.bool (endsF l tree at_ (Av s))) rfl rfl ?_
 refine l_A (.bool (endsF l tree at_ (Av s))) rfl rfl ?_
 apply Ac
 apply k76
 refine Aj (Arw l2) ?_
 refine Aq ?_
 refine hret _ _ _ ?_
 refine ⟨rfl,es,ck,Eq.trans (b:=(.bool (endsF l tree at_ (Av s)))) rfl ?_,rfl,hM⟩
 rfl
set_option maxHeartbeats 600000 in
set_option maxRecDepth 100000 in
theorem c_Settles {mn:Bool} {X:Frame→List Frame→Ro→Own→Cy→Prop} {ρ:Ro} {σ:Own} {l:Lab} {vl vr vt:Value} {rs:List Found} {tree:List FNode} (hg:Glob ρ) (rl:Val ρ vl l) (rr:Val ρ vr rs) (rt:Val ρ vt tree) (htl:tree.length ≤ 1000000):CallsH (CX mn X) 52 #[vl,vr,vt] ρ σ (fun w ρ' σ'=>ρ' = ρ∧σ' = σ∧w = (.tuple #[(.bool (setlB l rs tree)),(iV (setlF l rs tree))])):=by
 refine Bh (n:=65) (args:=[vl,vr,vt]) [6,7] Tryd.func52 rfl rfl rfl rfl fun Q hret hnor=>?_
 refine w_q rfl rfl fun K1 k1=>?_
 refine Ae rfl (Eb (v:=vl) rfl fun k2=>?_)
 refine Bb (a:=l) rl fun ρ2 l2 r2=>?_
 replace rl:=Asa l2 rl
 replace rr:=Asa l2 rr
 replace rt:=Asa l2 rt
 replace hg:=Glob.mono l2 hg
 refine Ae rfl (Eb (v:=vt) rfl fun k3=>?_)
 refine Bb (a:=tree) rt fun ρ3 l3 r3=>?_
 replace rl:=Asa l3 rl
 replace rr:=Asa l3 rr
 replace rt:=Asa l3 rt
 replace hg:=Glob.mono l3 hg
 replace r2:=Arv l3 r2
 refine l_A (.bool (false)) rfl rfl ?_
 refine l_A (iV (0)) rfl rfl ?_
 apply Ac
 apply k1
 refine w_q rfl rfl fun K4 k4=>?_
 refine Ak rfl (Ax Aaj rfl r2) fun v5 r5=>?_
 refine l_M vr rfl rfl ?_
 refine Ae rfl (Cm (vs:=[v5,vr]) (Acx hg r5 rr) Tryd.func67 rfl rfl ⟨rfl,rfl,trivial⟩ fun w6 ρ6 σ6 hc6=>?_)
 obtain ⟨l6,hc6⟩:=hc6
 replace rr:=Asa l6 rr
 replace hg:=Glob.mono l6 hg
 replace r2:=Arv l6 r2
 replace r3:=Arv l6 r3
 replace r5:=Asa l6 r5
 rcases hc6 with ⟨hC6,rfl,rfl⟩ | ⟨hC6,bp6,rm6,rfl,rfl,rb6⟩
 ·refine Aa rfl (Ah (v:=(.tuple #[(.pointer none),(iV (0)),(iV ((Cw l rs)))])) rfl) ?_
  refine Aa rfl (Bk (vs:=#[(.pointer none),(iV (0)),(iV ((Cw l rs)))]) rfl (v:=(.pointer none)) rfl) ?_
  refine Aa rfl (Bk (vs:=#[(.pointer none),(iV (0)),(iV ((Cw l rs)))]) rfl (v:=(iV (0))) rfl) ?_
  refine Aa rfl (Bk (vs:=#[(.pointer none),(iV (0)),(iV ((Cw l rs)))]) rfl (v:=(iV ((Cw l rs)))) rfl) ?_
  refine Ae rfl (Ct Amo fun k7=>?_)
  refine Cx rfl (Cz (j:=0) (v:=(.pointer none)) (c:=Amq) ⟨_,Ab Tryd.typeInfo109,rfl⟩ rfl rfl rfl rfl (Nat.le_of_ble_eq_true rfl) ?_)
  refine l_A (iV (0)) rfl rfl ?_
  refine l_A (iV ((Cw l rs))) rfl rfl ?_
  apply Ac
  apply k4
  refine Ai fun K8 k8=>?_
  refine w_q rfl rfl fun K9 k9=>?_
  refine l_M (iV ((Cw l rs))) rfl rfl ?_
  refine Aa rfl (Dg (p:=(Cw l rs)) (q:=0) rfl rfl) ?_
  apply Ac
  apply k9
  refine Co rfl (Anh hC6) ?_
  refine w_q rfl rfl fun K10 k10=>?_
  refine l_M (iV ((Cw l rs))) rfl rfl ?_
  refine l_A (.bool (false)) rfl rfl ?_
  refine l_A (iV ((Cw l rs))) rfl rfl ?_
  apply Ac
  apply k10
  refine Aj Ghost.drop ?_
  refine Aj (Arw (Arz (Arz l2 l3) l6)) ?_
  refine Aq ?_
  refine hret _ _ _ ?_
  refine ⟨rfl,rfl,Eq.trans (b:=(.tuple #[(.bool (false)),(iV ((Cw l rs)))])) (Mk (r:=6) (r':=7) (rs:=[]) (v:=(.bool (false))) (v':=(iV ((Cw l rs)))) (vs:=[]) ⟨rfl,rfl,trivial⟩) ?_⟩
  have hf:setlF l rs tree = Cw l rs:=by rw [setlF,Rx hC6]
  rw [hf,setlB,hf,if_neg hC6]
 obtain ⟨hl,hrs,hr8⟩:=(show Gj l = 0∧ResOk l rs∧rs.length ≤ 8 from Abk (Xz hC6))
 have ok:=Lm hl
 have hk4:=ok.n4
 have hm16:=Jx ok (rs:=rs)
 refine l_M (.tuple #[bp6,(iV ((((Bf (Ba l rs)):Nat):Int))),(iV (0))]) rfl rfl ?_
 refine Aa rfl (Bk (vs:=#[bp6,(iV ((((Bf (Ba l rs)):Nat):Int))),(iV (0))]) rfl (v:=bp6) rfl) ?_
 refine Aa rfl (Bk (vs:=#[bp6,(iV ((((Bf (Ba l rs)):Nat):Int))),(iV (0))]) rfl (v:=(iV ((((Bf (Ba l rs)):Nat):Int)))) rfl) ?_
 refine Aa rfl (Bk (vs:=#[bp6,(iV ((((Bf (Ba l rs)):Nat):Int))),(iV (0))]) rfl (v:=(iV (0))) rfl) ?_
 refine Ae rfl (Ct Amo fun k11=>?_)
 refine Cx rfl (Du (v:=bp6) (a:=(Ptr.mk ((⟨l.tests.map Dr,((Bf (Hk l):Nat):Int),⟨rm6⟩⟩:Bench)))) (c:=Amq) Sd rfl rfl (Io.2 rb6) rfl ?_)
 refine Bb (a:=(Ptr.mk ((⟨l.tests.map Dr,((Bf (Hk l):Nat):Int),⟨rm6⟩⟩:Bench)))) (Io.2 rb6) fun ρ12 l12 r12=>?_
 replace rr:=Asa l12 rr
 replace hg:=Glob.mono l12 hg
 replace r2:=Arv l12 r2
 replace r3:=Arv l12 r3
 replace r5:=Asa l12 r5
 replace rb6:=Arv l12 rb6
 refine l_A (iV ((((Bf (Ba l rs)):Nat):Int))) rfl rfl ?_
 refine l_A (iV (0)) rfl rfl ?_
 apply Ac
 apply k4
 refine Ai fun K13 k13=>?_
 refine w_q rfl rfl fun K14 k14=>?_
 refine l_M (iV (0)) rfl rfl ?_
 refine Aa rfl (Dg (p:=0) (q:=0) rfl rfl) ?_
 apply Ac
 apply k14
 refine Cg rfl rfl ?_
 refine Al ?_
 apply k13
 refine w_q rfl rfl fun K15 k15=>?_
 refine Aa rfl (Ic (fn:=.func 104) (caps:=[.tmp 5]) (vs:=[(.pointer (some ⟨k3,0,none⟩))]) ⟨rfl,trivial⟩) ?_
 refine l_A (.func (.func 104) #[] #[(.pointer (some ⟨k3,0,none⟩))]) rfl rfl ?_
 apply Ac
 apply k15
 refine Ai fun K16 k16=>?_
 refine w_q rfl rfl fun K17 k17=>?_
 refine Ak rfl (Ax ty49 rfl r3) fun v18 r18=>?_
 have g19:=Val.len r18
 refine Aa rfl (Ce (el:=94) Tryd.underlying49 rfl r18) ?_
 refine l_M (iV (0)) rfl rfl ?_
 apply Ac
 apply k17
 refine Ao ?_
 refine Cc (fun mm ee dd ρ' σ'=>∃ (i:Nat),(tree.length - i) = mm∧[] = dd∧ρ12 = ρ'∧((rm6,Res.obj (Obj.map #[] 0)) :: σ) = σ'∧ee 3 = (.pointer (some ⟨k2,0,none⟩))∧ee 5 = (.pointer (some ⟨k3,0,none⟩))∧ee 8 = (.pointer (some ⟨k11,0,none⟩))∧ee 9 = (iV ((((Bf (Ba l rs)):Nat):Int)))∧ee 11 = (.func (.func 104) #[] #[(.pointer (some ⟨k3,0,none⟩))])∧ee 27 = v18∧ee 28 = (iV (((tree.length:Nat):Int)))∧ee 29 = (iV ((i:Int)))∧(i ≤ tree.length)∧(∀ j,j < i→nodeAt l tree j = 0)∧True) (m:=_) ⟨0,rfl,rfl,rfl,rfl,rfl,rfl,rfl,rfl,rfl,rfl,rfl,rfl,(Nat.zero_le _),(fun j h=>absurd h (Nat.not_lt_zero _)),trivial⟩ ?_
 rintro m20 e20 _ _ _ ⟨i,rfl,rfl,rfl,rfl,h20_3,h20_5,h20_8,h20_9,h20_11,h20_27,h20_28,h20_29,p20_0,p20_1,_⟩
 refine w_q rfl rfl fun K21 k21=>?_
 refine Aa rfl (Da (p:=(i:Int)) (q:=((tree.length:Nat):Int)) h20_29 h20_28) ?_
 apply Ac
 apply k21
 refine Ai fun K22 k22=>?_
 refine As (t:=decide ((i:Int) < ((tree.length:Nat):Int))) rfl (fun b23=>?_) (fun b23=>?_)
 ·have q23:=of_decide_eq_true b23
  refine Al ?_
  apply k22
  refine Ai fun K24 k24=>?_
  refine Ao ?_
  refine w_q rfl rfl fun K25 k25=>?_
  refine Aa rfl (Ah (v:=(iV ((i:Int)))) h20_29) ?_
  obtain ⟨a27,ha27⟩:=Ed (xs:=tree) (i:=i) (by omega)
  refine Ak rfl (Ci i Tryd.underlying49 ty94 h20_27 r18 (q:=(i:Int)) h20_29 rfl ha27) fun v26 r26=>?_
  refine Ak rfl (Ax ty94 rfl r26) fun v28 r28=>?_
  refine Ae rfl (Ct Aes fun k29=>?_)
  refine l_A (iV ((i:Int))) rfl rfl ?_
  refine Cx rfl (Du (v:=v28) (a:=a27) (c:=Aly) ty94 rfl rfl r28 rfl ?_)
  refine Bb (a:=a27) r28 fun ρ30 l30 r30=>?_
  replace hg:=Glob.mono l30 hg
  replace r2:=Arv l30 r2
  replace r3:=Arv l30 r3
  replace r12:=Arv l30 r12
  replace r18:=Asa l30 r18
  replace r26:=Arv l30 r26
  replace r28:=Asa l30 r28
  apply Ac
  apply k25
  refine Ao ?_
  refine w_q rfl rfl fun K31 k31=>?_
  refine Ak rfl (Ay FNode.f_test Tryd.underlying94 rfl rfl ty3 (by decide) rfl r30) fun v32 r32=>?_
  have ⟨g33a,g33b⟩:=At.rng r32
  refine Aa rfl (Bc ty3 rfl r32) ?_
  refine Ak rfl (Ay Lab.f_tests Tryd.underlying40 rfl rfl Vd (by decide) h20_3 r2) fun v34 r34=>?_
  refine Ak rfl (Ax Vd rfl r34) fun v35 r35=>?_
  have g36:=Val.len r35
  refine Aa rfl (Ce (el:=108) Tryd.underlying38 rfl r35) ?_
  refine Aa rfl (Oq (p:=((l.tests.length:Nat):Int)) (q:=1) rfl rfl (z:=(((l.tests.length:Nat):Int) - 1)) (Bo (by first | rfl | omega | (push_cast; rfl)) (by omega) (by omega))) ?_
  refine Ae rfl (Bn (vs:=[(iV (a27.test)),(iV (0)),(iV ((((l.tests.length:Nat):Int) - 1)))]) (v:=(.bool (inR a27.test 0 ((((l.tests.length:Nat):Int) - 1))))) (Jn) Tryd.func92 rfl rfl ⟨rfl,rfl,rfl,trivial⟩ ?_)
  refine Aa rfl (Ix (k:=inR a27.test 0 ((((l.tests.length:Nat):Int) - 1))) rfl) ?_
  refine l_A (.bool (!(inR a27.test 0 ((((l.tests.length:Nat):Int) - 1))))) rfl rfl ?_
  apply Ac
  apply k31
  refine As (t:=!(inR a27.test 0 ((((l.tests.length:Nat):Int) - 1)))) rfl (fun b37=>?_) (fun b37=>?_)
  ·have b38:=not_eq_t b37
   have q38:=Ui.1 b38
   refine w_q rfl rfl fun K39 k39=>?_
   refine l_A (.bool (false)) rfl rfl ?_
   refine l_A (iV (6)) rfl rfl ?_
   apply Ac
   apply k39
   refine Aj Ghost.drop ?_
   refine Aj (Arw (Arz (Arz (Arz (Arz l2 l3) l6) l12) l30)) ?_
   refine Aq ?_
   refine hret _ _ _ ?_
   refine ⟨rfl,rfl,Eq.trans (b:=(.tuple #[(.bool (false)),(iV (6))])) (Mk (r:=6) (r':=7) (rs:=[]) (v:=(.bool (false))) (v':=(iV (6))) (vs:=[]) ⟨rfl,rfl,trivial⟩) ?_⟩
   have hN:nodeAt l tree i = 6:=by simp only [nodeAt,ha27,link_not,b23,b37,b38,Bool.true_and,Bool.false_and,Bool.and_true,Bool.and_false,Bool.true_or,Bool.false_or,Bool.or_true,Bool.or_false,Bool.not_true,Bool.not_false,if_true,Bool.false_eq_true,if_false]
   have hT:treeF l tree = 6:=by rw [treeF,Db p20_1 (by omega) hN (by omega)]
   have hf:setlF l rs tree = 6:=by rw [setlF,Gt hC6,hT]
   rw [hf,setlB,hf,if_neg (by omega)]
  have b40:=not_eq_f b37
  have q40:=Ge.1 b40
  refine w_q rfl rfl fun K41 k41=>?_
  refine Aa rfl (Ah (v:=(.func (.func 104) #[] #[(.pointer (some ⟨k3,0,none⟩))])) h20_11) ?_
  refine Ak rfl (Ay FNode.f_found Tryd.underlying94 rfl rfl ty3 (by decide) rfl r30) fun v42 r42=>?_
  have ⟨g43a,g43b⟩:=At.rng r42
  refine Aa rfl (Bc ty3 rfl r42) ?_
  refine l_M (iV ((i:Int))) rfl rfl ?_
  have hli44:=i64_of (x:=a27.found) (by omega) (by omega)
  refine Ae rfl (Us (caps:=[(.pointer (some ⟨k3,0,none⟩))]) (vs:=[(iV (a27.found)),(iV ((i:Int)))]) (v:=(.bool (a27.found == -1 || inR a27.found ((i + 1:Nat):Int) ((tree.length:Int) - 1)))) rfl (c_links (tree:=tree) (c:=a27.found) (i:=i) r3 hli44 (by omega) htl) Tryd.func104 rfl rfl ⟨rfl,rfl,trivial⟩ ?_)
  refine Aa rfl (Ix (k:=a27.found == -1 || inR a27.found ((i + 1:Nat):Int) ((tree.length:Int) - 1)) rfl) ?_
  refine l_M (.bool (!(a27.found == -1 || inR a27.found ((i + 1:Nat):Int) ((tree.length:Int) - 1)))) rfl rfl ?_
  refine Cn (!(a27.found == -1 || inR a27.found ((i + 1:Nat):Int) ((tree.length:Int) - 1))) (fun b45=>?_) (fun b45=>?_)
  ·have b46:=not_eq_t b45
   refine Ap (Bl rfl rfl rfl b45) ?_
   refine Ap (Bl rfl rfl rfl b45) ?_
   refine Ap (Bl rfl rfl rfl b45) ?_
   refine Ap (Bl rfl rfl rfl b45) ?_
   refine Ap (Bl rfl rfl rfl b45) ?_
   refine Ap (Bl rfl rfl rfl b45) ?_
   refine Aa rfl (Bt rfl b45 (v:=(.bool (true))) rfl) ?_
   refine l_A (.bool (true)) rfl rfl ?_
   apply Ac
   apply k41
   refine Co rfl rfl ?_
   refine w_q rfl rfl fun K47 k47=>?_
   refine l_A (.bool (false)) rfl rfl ?_
   refine l_A (iV (7)) rfl rfl ?_
   apply Ac
   apply k47
   refine Aj Ghost.drop ?_
   refine Aj (Arw (Arz (Arz (Arz (Arz l2 l3) l6) l12) l30)) ?_
   refine Aq ?_
   refine hret _ _ _ ?_
   refine ⟨rfl,rfl,Eq.trans (b:=(.tuple #[(.bool (false)),(iV (7))])) (Mk (r:=6) (r':=7) (rs:=[]) (v:=(.bool (false))) (v':=(iV (7))) (vs:=[]) ⟨rfl,rfl,trivial⟩) ?_⟩
   have hN:nodeAt l tree i = 7:=by simp only [nodeAt,ha27,link_not,b23,b37,b40,b45,b46,Bool.true_and,Bool.false_and,Bool.and_true,Bool.and_false,Bool.true_or,Bool.false_or,Bool.or_true,Bool.or_false,Bool.not_true,Bool.not_false,if_true,Bool.false_eq_true,if_false]
   have hT:treeF l tree = 7:=by rw [treeF,Db p20_1 (by omega) hN (by omega)]
   have hf:setlF l rs tree = 7:=by rw [setlF,Gt hC6,hT]
   rw [hf,setlB,hf,if_neg (by omega)]
  have b48:=not_eq_f b45
  refine Aa (Ar rfl rfl rfl b45) (Ah (v:=(.func (.func 104) #[] #[(.pointer (some ⟨k3,0,none⟩))])) h20_11) ?_
  refine Ak (Ar rfl rfl rfl b45) (Ay FNode.f_not Tryd.underlying94 rfl rfl ty3 (by decide) rfl r30) fun v49 r49=>?_
  have ⟨g50a,g50b⟩:=At.rng r49
  refine Aa (Ar rfl rfl rfl b45) (Bc ty3 rfl r49) ?_
  refine l_M (iV ((i:Int))) (Ar rfl rfl rfl b45) rfl ?_
  have hli51:=i64_of (x:=a27.not) (by omega) (by omega)
  refine Ae (Ar rfl rfl rfl b45) (Us (caps:=[(.pointer (some ⟨k3,0,none⟩))]) (vs:=[(iV (a27.not)),(iV ((i:Int)))]) (v:=(.bool (a27.not == -1 || inR a27.not ((i + 1:Nat):Int) ((tree.length:Int) - 1)))) rfl (c_links (tree:=tree) (c:=a27.not) (i:=i) r3 hli51 (by omega) htl) Tryd.func104 rfl rfl ⟨rfl,rfl,trivial⟩ ?_)
  refine Aa (Ar rfl rfl rfl b45) (Ix (k:=a27.not == -1 || inR a27.not ((i + 1:Nat):Int) ((tree.length:Int) - 1)) rfl) ?_
  refine Aa rfl (Bm rfl b45 (v:=(.bool (!(a27.not == -1 || inR a27.not ((i + 1:Nat):Int) ((tree.length:Int) - 1))))) rfl) ?_
  refine l_A (.bool (!(a27.not == -1 || inR a27.not ((i + 1:Nat):Int) ((tree.length:Int) - 1)))) rfl rfl ?_
  apply Ac
  apply k41
  refine As (t:=!(a27.not == -1 || inR a27.not ((i + 1:Nat):Int) ((tree.length:Int) - 1))) rfl (fun b52=>?_) (fun b52=>?_)
  ·have b53:=not_eq_t b52
   refine w_q rfl rfl fun K54 k54=>?_
   refine l_A (.bool (false)) rfl rfl ?_
   refine l_A (iV (7)) rfl rfl ?_
   apply Ac
   apply k54
   refine Aj Ghost.drop ?_
   refine Aj (Arw (Arz (Arz (Arz (Arz l2 l3) l6) l12) l30)) ?_
   refine Aq ?_
   refine hret _ _ _ ?_
   refine ⟨rfl,rfl,Eq.trans (b:=(.tuple #[(.bool (false)),(iV (7))])) (Mk (r:=6) (r':=7) (rs:=[]) (v:=(.bool (false))) (v':=(iV (7))) (vs:=[]) ⟨rfl,rfl,trivial⟩) ?_⟩
   have hN:nodeAt l tree i = 7:=by simp only [nodeAt,ha27,link_not,b23,b37,b40,b45,b48,b52,b53,Bool.true_and,Bool.false_and,Bool.and_true,Bool.and_false,Bool.true_or,Bool.false_or,Bool.or_true,Bool.or_false,Bool.not_true,Bool.not_false,if_true,Bool.false_eq_true,if_false]
   have hT:treeF l tree = 7:=by rw [treeF,Db p20_1 (by omega) hN (by omega)]
   have hf:setlF l rs tree = 7:=by rw [setlF,Gt hC6,hT]
   rw [hf,setlB,hf,if_neg (by omega)]
  have b55:=not_eq_f b52
  refine Al ?_
  apply k24
  refine Ag rfl rfl ?_
  refine Aa rfl (Br (p:=(i:Int)) (q:=1) h20_29 rfl (z:=(((i + 1):Nat):Int)) (Bo (by first | rfl | omega | (push_cast; rfl)) (by omega) (by omega))) ?_
  refine l_M (iV ((((i + 1):Nat):Int))) rfl rfl ?_
  refine Bj (Arw l30) ?_
  apply Ac
  refine ⟨_,?_,((i + 1)),rfl,rfl,rfl,rfl,h20_3,h20_5,h20_8,h20_9,h20_11,h20_27,h20_28,rfl,(by omega),(Ef p20_1 (by simp only [nodeAt,ha27,link_not,b23,b37,b40,b45,b48,b52,b55,Bool.true_and,Bool.false_and,Bool.and_true,Bool.and_false,Bool.true_or,Bool.false_or,Bool.or_true,Bool.or_false,Bool.not_true,Bool.not_false,if_true,Bool.false_eq_true,if_false])),trivial⟩
  omega
 have q23:=of_decide_eq_false b23
 refine Bx ?_
 apply k16
 refine w_q rfl rfl fun K56 k56=>?_
 refine Ae rfl (Oa fun k57=>?_)
 refine Ae rfl (Ct zr166 fun k58=>?_)
 refine Cx rfl (Du (v:=(.map (some k57))) (a:=(⟨k57⟩:MapRef)) (c:=zc166) ty166 rfl rfl val_map rfl ?_)
 refine Bb (a:=(⟨k57⟩:MapRef)) val_map fun ρ59 l59 r59=>?_
 replace hg:=Glob.mono l59 hg
 replace r2:=Arv l59 r2
 replace r3:=Arv l59 r3
 replace r12:=Arv l59 r12
 replace r18:=Asa l59 r18
 apply Ac
 apply k56
 refine w_q rfl rfl fun K60 k60=>?_
 refine Ae rfl (Ct zr167 fun k61=>?_)
 apply Ac
 apply k60
 refine w_q rfl rfl fun K62 k62=>?_
 refine Aa rfl (Ic (fn:=.func 105) (caps:=[.tmp 5,.tmp 14,.tmp 15,.tmp 8]) (vs:=[(.pointer (some ⟨k3,0,none⟩)),(.pointer (some ⟨k58,0,none⟩)),(.pointer (some ⟨k61,0,none⟩)),(.pointer (some ⟨k11,0,none⟩))]) ⟨h20_5,rfl,rfl,h20_8,trivial⟩) ?_
 refine Cx rfl (Du (v:=(.func (.func 105) #[] #[(.pointer (some ⟨k3,0,none⟩)),(.pointer (some ⟨k58,0,none⟩)),(.pointer (some ⟨k61,0,none⟩)),(.pointer (some ⟨k11,0,none⟩))])) (a:=(RawV.mk ((.func (.func 105) #[] #[(.pointer (some ⟨k3,0,none⟩)),(.pointer (some ⟨k58,0,none⟩)),(.pointer (some ⟨k61,0,none⟩)),(.pointer (some ⟨k11,0,none⟩))])))) (c:=zc167) ty167 rfl rfl (Sl rfl) rfl ?_)
 refine Bb (a:=(RawV.mk ((.func (.func 105) #[] #[(.pointer (some ⟨k3,0,none⟩)),(.pointer (some ⟨k58,0,none⟩)),(.pointer (some ⟨k61,0,none⟩)),(.pointer (some ⟨k11,0,none⟩))])))) (Sl rfl) fun ρ63 l63 r63=>?_
 replace hg:=Glob.mono l63 hg
 replace r3:=Arv l63 r3
 replace r12:=Arv l63 r12
 replace r59:=Arv l63 r59
 apply Ac
 apply k62
 refine w_q rfl rfl fun K64 k64=>?_
 refine Aa rfl (Lb ty167 rfl r63) ?_
 refine Aa rfl (Ah (v:=(iV ((((Bf (Ba l rs)):Nat):Int)))) h20_9) ?_
 have r66:Val ρ63 (.agg #[(iV (0)),(iV ((((Bf (Ba l rs)):Nat):Int)))]) (⟨0,(((Bf (Ba l rs)):Nat):Int)⟩:Place):=Place.shut (x:=(⟨0,(((Bf (Ba l rs)):Nat):Int)⟩:Place)) (show I64 (0) from by constructor <;> omega) (show I64 ((((Bf (Ba l rs)):Nat):Int)) from by constructor <;> omega)
 refine Aa rfl (Dm (ns:=[1,1]) (vs:=[(0,(iV (0))),(1,(iV ((((Bf (Ba l rs)):Nat):Int))))]) (zc:=zc169) (cs:=[(iV (0)),(iV ((((Bf (Ba l rs)):Nat):Int)))]) Tryd.underlying169 zr169 rfl ⟨⟨_,Ab Tryd.typeInfo3,rfl⟩,⟨_,Ab Tryd.typeInfo110,rfl⟩,trivial⟩ (EvB.map ⟨⟨rfl,rfl⟩,⟨rfl,rfl⟩,trivial⟩) ((Bd (cs:=[(iV (0))]) rfl rfl (Nat.le_of_ble_eq_true rfl)).trans ((Bd (cs:=[(iV ((((Bf (Ba l rs)):Nat):Int)))]) rfl rfl (Nat.le_of_ble_eq_true rfl)).trans rfl))) ?_
 have hT:treeF l tree = 0:=by rw [treeF,Fb fun j hj=>p20_1 j (by omega)]
 have ok2:=treeF_0 hT
 refine Ae rfl (Si (vs:=[(.agg #[(iV (0)),(iV ((((Bf (Ba l rs)):Nat):Int)))])]) (caps:=[(.pointer (some ⟨k3,0,none⟩)),(.pointer (some ⟨k58,0,none⟩)),(.pointer (some ⟨k61,0,none⟩)),(.pointer (some ⟨k11,0,none⟩))]) rfl (c_endsP (k:=tree.length) (at_:=0) (s:=Bf (Ba l rs)) hg (by omega) (.inr ⟨by omega,by simp⟩) r3 r59 r63 r12 hm16 Ajm hl ok2 htl) Tryd.func105 rfl rfl ⟨rfl,trivial⟩ fun w67 ρ67 σ67 hc67=>?_)
 obtain ⟨hr67,es67,ck67,hw67,hs67,MM67⟩:=hc67
 replace hr67:=hr67.symm; subst hr67; subst hs67
 rw [Fq ok] at hw67
 subst hw67
 refine l_A (.bool (endsF l tree 0 (Ba l rs))) rfl rfl ?_
 refine l_A (iV (0)) rfl rfl ?_
 apply Ac
 apply k64
 refine Aj Ghost.drop ?_
 refine Aj Ghost.drop ?_
 refine Aj (Arw (Arz (Arz (Arz (Arz (Arz l2 l3) l6) l12) l59) l63)) ?_
 refine Aq ?_
 refine hret _ _ _ ?_
 refine ⟨rfl,rfl,Eq.trans (b:=(.tuple #[(.bool (endsF l tree 0 (Ba l rs))),(iV (0))])) (Mk (r:=6) (r':=7) (rs:=[]) (v:=(.bool (endsF l tree 0 (Ba l rs)))) (v':=(iV (0))) (vs:=[]) ⟨rfl,rfl,trivial⟩) ?_⟩
 have hf:setlF l rs tree = 0:=by rw [setlF,Gt hC6,hT]
 rw [hf,setlB,if_pos hf]
end Go.Proofs.YtoefdnbaklajeaaDoor

namespace Go.Proofs.YtoefdnbaklajeaaDoor
open Go
set_option maxHeartbeats 4000000 in
set_option maxRecDepth 100000 in
theorem c_FakeTrees  {ρ:Ro} {σ:Own} {l:Lab} {rs:List Found} {tree:List FNode} {vl vr vt:Value} (hg:Glob ρ) (hnr:Js σ) (rl:Val ρ vl l) (rr:Val ρ vr rs) (rt:Val ρ vt tree):Agv (CX true (Acu Tryd.prog)) 13 6 [vl,vr,vt] ρ σ (fun w ρ' σ'=>ρ' = ρ∧σ' = σ∧w = (.bool (true))):=by
 refine body_fn (n:=88) Tryd.func13 rfl rfl rfl rfl fun Q hret hnor=>?_
 refine w_q rfl rfl fun K1 k1=>?_
 refine Ae rfl (Eb (v:=vl) rfl fun k2=>?_)
 refine Bb (a:=l) rl fun ρ2 l2 r2=>?_
 replace rl:=Asa l2 rl
 replace rr:=Asa l2 rr
 replace rt:=Asa l2 rt
 replace hg:=Glob.mono l2 hg
 refine l_A (.bool (false)) rfl rfl ?_
 apply Ac
 apply k1
 refine Ai fun K3 k3=>?_
 refine w_q rfl rfl fun K4 k4=>?_
 refine Ak rfl (Ax Aaj rfl r2) fun v5 r5=>?_
 refine Ae rfl (Cm (vs:=[v5]) (c_Great r5) Tryd.func23 rfl rfl ⟨rfl,trivial⟩ fun w6 ρ6 σ6 hc6=>?_)
 obtain ⟨hr6,hs6,b6_,hw6⟩:=hc6
 replace hr6:=hr6.symm; replace hs6:=hs6.symm; subst hr6 hs6 hw6
 refine l_M (.bool (b6_)) rfl rfl ?_
 refine Cn (b6_) (fun b7=>?_) (fun b7=>?_)
 ·refine Ap (Bl rfl rfl rfl b7) ?_
  refine Ap (Bl rfl rfl rfl b7) ?_
  refine Ap (Bl rfl rfl rfl b7) ?_
  refine Aa rfl (Bt rfl b7 (v:=(.bool (true))) rfl) ?_
  refine l_M (.bool (true)) rfl rfl ?_
  refine Ap (Bl rfl rfl rfl rfl) ?_
  refine Ap (Bl rfl rfl rfl rfl) ?_
  refine Ap (Bl rfl rfl rfl rfl) ?_
  refine Aa rfl (Bt rfl rfl (v:=(.bool (true))) rfl) ?_
  apply Ac
  apply k4
  refine Co rfl rfl ?_
  refine w_q rfl rfl fun K8 k8=>?_
  refine Ae rfl (Bn (vs:=[]) (v:=(.bool (true))) (c_tells hg hnr) Tryd.func17 rfl rfl trivial ?_)
  refine l_A (.bool (true)) rfl rfl ?_
  apply Ac
  apply k8
  refine Aj (Arw l2) ?_
  refine Aq ?_
  refine hret _ _ _ ?_
  refine ⟨rfl,rfl,Eq.trans (b:=(.bool (true))) rfl ?_⟩
  rfl
 refine l_M vr (Ar rfl rfl rfl b7) rfl ?_
 have g9:=Val.len rr
 refine Aa (Ar rfl rfl rfl b7) (Ce (el:=43) Tryd.underlying41 rfl rr) ?_
 refine Aa (Ar rfl rfl rfl b7) (Gk (p:=((rs.length:Nat):Int)) (q:=40) rfl rfl) ?_
 refine Aa rfl (Bm rfl b7 (v:=(.bool (decide (((rs.length:Nat):Int) > 40)))) rfl) ?_
 refine l_M (.bool (decide (((rs.length:Nat):Int) > 40))) rfl rfl ?_
 refine Cn (decide (((rs.length:Nat):Int) > 40)) (fun b10=>?_) (fun b10=>?_)
 ·have q10:=of_decide_eq_true b10
  refine Ap (Bl rfl rfl rfl b10) ?_
  refine Ap (Bl rfl rfl rfl b10) ?_
  refine Ap (Bl rfl rfl rfl b10) ?_
  refine Aa rfl (Bt rfl b10 (v:=(.bool (true))) rfl) ?_
  apply Ac
  apply k4
  refine Co rfl rfl ?_
  refine w_q rfl rfl fun K11 k11=>?_
  refine Ae rfl (Bn (vs:=[]) (v:=(.bool (true))) (c_tells hg hnr) Tryd.func17 rfl rfl trivial ?_)
  refine l_A (.bool (true)) rfl rfl ?_
  apply Ac
  apply k11
  refine Aj (Arw l2) ?_
  refine Aq ?_
  refine hret _ _ _ ?_
  refine ⟨rfl,rfl,Eq.trans (b:=(.bool (true))) rfl ?_⟩
  rfl
 have q10:=of_decide_eq_false b10
 refine l_M vt (Ar rfl rfl rfl b10) rfl ?_
 have g12:=Val.len rt
 refine Aa (Ar rfl rfl rfl b10) (Ce (el:=94) Tryd.underlying49 rfl rt) ?_
 refine Aa (Ar rfl rfl rfl b10) (Gk (p:=((tree.length:Nat):Int)) (q:=12) rfl rfl) ?_
 refine Aa rfl (Bm rfl b10 (v:=(.bool (decide (((tree.length:Nat):Int) > 12)))) rfl) ?_
 apply Ac
 apply k4
 refine As (t:=decide (((tree.length:Nat):Int) > 12)) rfl (fun b13=>?_) (fun b13=>?_)
 ·have q13:=of_decide_eq_true b13
  refine w_q rfl rfl fun K14 k14=>?_
  refine Ae rfl (Bn (vs:=[]) (v:=(.bool (true))) (c_tells hg hnr) Tryd.func17 rfl rfl trivial ?_)
  refine l_A (.bool (true)) rfl rfl ?_
  apply Ac
  apply k14
  refine Aj (Arw l2) ?_
  refine Aq ?_
  refine hret _ _ _ ?_
  refine ⟨rfl,rfl,Eq.trans (b:=(.bool (true))) rfl ?_⟩
  rfl
 have q13:=of_decide_eq_false b13
 refine Al ?_
 apply k3
 refine w_q rfl rfl fun K15 k15=>?_
 refine Ak rfl (Ax Aaj rfl r2) fun v16 r16=>?_
 refine l_M vr rfl rfl ?_
 refine Ae rfl (Cm (vs:=[v16,vr]) (Anu hg r16 rr) Tryd.func26 rfl rfl ⟨rfl,rfl,trivial⟩ fun w17 ρ17 σ17 hc17=>?_)
 obtain ⟨l17,s17,v17_0,w17e,r17_0⟩:=hc17
 replace s17:=s17.symm; subst s17 w17e
 replace rr:=Asa l17 rr
 replace rt:=Asa l17 rt
 replace hg:=Glob.mono l17 hg
 replace r2:=Arv l17 r2
 replace r16:=Asa l17 r16
 refine l_M (.tuple #[v17_0,(iV (Xx l rs)),(.bool (Yl l rs)),(iV (Cw l rs))]) rfl rfl ?_
 refine Aa rfl (Bk (vs:=#[v17_0,(iV (Xx l rs)),(.bool (Yl l rs)),(iV (Cw l rs))]) rfl (v:=v17_0) rfl) ?_
 refine Aa rfl (Bk (vs:=#[v17_0,(iV (Xx l rs)),(.bool (Yl l rs)),(iV (Cw l rs))]) rfl (v:=(iV (Xx l rs))) rfl) ?_
 refine Aa rfl (Bk (vs:=#[v17_0,(iV (Xx l rs)),(.bool (Yl l rs)),(iV (Cw l rs))]) rfl (v:=(.bool (Yl l rs))) rfl) ?_
 refine Aa rfl (Bk (vs:=#[v17_0,(iV (Xx l rs)),(.bool (Yl l rs)),(iV (Cw l rs))]) rfl (v:=(iV (Cw l rs))) rfl) ?_
 refine l_A v17_0 rfl rfl ?_
 refine l_A (iV (Xx l rs)) rfl rfl ?_
 refine l_A (.bool (Yl l rs)) rfl rfl ?_
 refine l_A (iV (Cw l rs)) rfl rfl ?_
 apply Ac
 apply k15
 refine w_q rfl rfl fun K18 k18=>?_
 refine Ak rfl (Ax Aaj rfl r2) fun v19 r19=>?_
 refine l_M vr rfl rfl ?_
 refine Ae rfl (Cm (vs:=[v19,vr]) (c_refTree r19 rr) Tryd.func50 rfl rfl ⟨rfl,rfl,trivial⟩ fun w20 ρ20 σ20 hc20=>?_)
 obtain ⟨l20,s20,v20_0,w20e,r20_0⟩:=hc20
 replace s20:=s20.symm; subst s20 w20e
 replace rr:=Asa l20 rr
 replace rt:=Asa l20 rt
 replace hg:=Glob.mono l20 hg
 replace r2:=Arv l20 r2
 replace r17_0:=Asa l20 r17_0
 replace r19:=Asa l20 r19
 refine l_M (.tuple #[v20_0,(iV (Xx l rs)),(.bool (Yl l rs)),(iV (Cw l rs))]) rfl rfl ?_
 refine Aa rfl (Bk (vs:=#[v20_0,(iV (Xx l rs)),(.bool (Yl l rs)),(iV (Cw l rs))]) rfl (v:=v20_0) rfl) ?_
 refine Aa rfl (Bk (vs:=#[v20_0,(iV (Xx l rs)),(.bool (Yl l rs)),(iV (Cw l rs))]) rfl (v:=(iV (Xx l rs))) rfl) ?_
 refine Aa rfl (Bk (vs:=#[v20_0,(iV (Xx l rs)),(.bool (Yl l rs)),(iV (Cw l rs))]) rfl (v:=(.bool (Yl l rs))) rfl) ?_
 refine Aa rfl (Bk (vs:=#[v20_0,(iV (Xx l rs)),(.bool (Yl l rs)),(iV (Cw l rs))]) rfl (v:=(iV (Cw l rs))) rfl) ?_
 refine l_A v20_0 rfl rfl ?_
 refine l_A (iV (Xx l rs)) rfl rfl ?_
 refine l_A (.bool (Yl l rs)) rfl rfl ?_
 refine l_A (iV (Cw l rs)) rfl rfl ?_
 apply Ac
 apply k18
 refine Ai fun K21 k21=>?_
 refine w_q rfl rfl fun K22 k22=>?_
 refine l_M v17_0 rfl rfl ?_
 refine l_M v20_0 rfl rfl ?_
 refine Ae rfl (Bn (vs:=[v17_0,v20_0]) (v:=(.bool ((Za l rs) == (Za l rs)))) (Aal r17_0 r20_0) Tryd.func51 rfl rfl ⟨rfl,rfl,trivial⟩ ?_)
 refine Aa rfl (Ix (k:=(Za l rs) == (Za l rs)) rfl) ?_
 refine l_M (.bool (!((Za l rs) == (Za l rs)))) rfl rfl ?_
 refine l_M (iV (Xx l rs)) (Ar rfl rfl rfl (not_t (by simp))) rfl ?_
 refine l_M (iV (Xx l rs)) (Ar rfl rfl rfl (not_t (by simp))) rfl ?_
 refine Aa (Ar rfl rfl rfl (not_t (by simp))) (Dg (p:=Xx l rs) (q:=Xx l rs) rfl rfl) ?_
 refine Aa rfl (Bm rfl (not_t (by simp)) (v:=(.bool (Xx l rs != Xx l rs))) rfl) ?_
 refine l_M (.bool (Xx l rs != Xx l rs)) rfl rfl ?_
 refine l_M (.bool (Yl l rs)) (Ar rfl rfl rfl (by simp)) rfl ?_
 refine l_M (.bool (Yl l rs)) (Ar rfl rfl rfl (by simp)) rfl ?_
 refine Aa (Ar rfl rfl rfl (by simp)) (y_neqb Tryd.underlying4 (p:=Yl l rs) (q:=Yl l rs) rfl rfl) ?_
 refine Aa rfl (Bm rfl (by simp) (v:=(.bool ((Yl l rs) != (Yl l rs)))) rfl) ?_
 refine l_M (.bool ((Yl l rs) != (Yl l rs))) rfl rfl ?_
 refine l_M (iV (Cw l rs)) (Ar rfl rfl rfl (by simp)) rfl ?_
 refine l_M (iV (Cw l rs)) (Ar rfl rfl rfl (by simp)) rfl ?_
 refine Aa (Ar rfl rfl rfl (by simp)) (Dg (p:=Cw l rs) (q:=Cw l rs) rfl rfl) ?_
 refine Aa rfl (Bm rfl (by simp) (v:=(.bool (Cw l rs != Cw l rs))) rfl) ?_
 apply Ac
 apply k22
 refine Cg rfl (by simp) ?_
 refine Al ?_
 apply k21
 refine w_q rfl rfl fun K23 k23=>?_
 refine Ak rfl (Ax Aaj rfl r2) fun v24 r24=>?_
 refine l_M vr rfl rfl ?_
 refine l_M vt rfl rfl ?_
 refine Ae rfl (Bn (vs:=[v24,vr,vt]) (v:=(.tuple #[(.bool (setlB l rs tree)),(iV (setlF l rs tree))])) (c_Settles hg r24 rr rt (by omega)) Tryd.func52 rfl rfl ⟨rfl,rfl,rfl,trivial⟩ ?_)
 refine l_M (.tuple #[(.bool (setlB l rs tree)),(iV (setlF l rs tree))]) rfl rfl ?_
 refine Aa rfl (Bk (vs:=#[(.bool (setlB l rs tree)),(iV (setlF l rs tree))]) rfl (v:=(.bool (setlB l rs tree))) rfl) ?_
 refine Aa rfl (Bk (vs:=#[(.bool (setlB l rs tree)),(iV (setlF l rs tree))]) rfl (v:=(iV (setlF l rs tree))) rfl) ?_
 refine l_A (.bool (setlB l rs tree)) rfl rfl ?_
 refine l_A (iV (setlF l rs tree)) rfl rfl ?_
 apply Ac
 apply k23
 refine w_q rfl rfl fun K25 k25=>?_
 refine Ak rfl (Ax Aaj rfl r2) fun v26 r26=>?_
 refine l_M vr rfl rfl ?_
 refine l_M vt rfl rfl ?_
 refine Ae rfl (Bn (vs:=[v26,vr,vt]) (v:=(.tuple #[(.bool (setlB l rs tree)),(iV (setlF l rs tree))])) (c_refSettles r26 rr rt (by omega)) Tryd.func53 rfl rfl ⟨rfl,rfl,rfl,trivial⟩ ?_)
 refine l_M (.tuple #[(.bool (setlB l rs tree)),(iV (setlF l rs tree))]) rfl rfl ?_
 refine Aa rfl (Bk (vs:=#[(.bool (setlB l rs tree)),(iV (setlF l rs tree))]) rfl (v:=(.bool (setlB l rs tree))) rfl) ?_
 refine Aa rfl (Bk (vs:=#[(.bool (setlB l rs tree)),(iV (setlF l rs tree))]) rfl (v:=(iV (setlF l rs tree))) rfl) ?_
 refine l_A (.bool (setlB l rs tree)) rfl rfl ?_
 refine l_A (iV (setlF l rs tree)) rfl rfl ?_
 apply Ac
 apply k25
 refine w_q rfl rfl fun K27 k27=>?_
 refine l_M (.bool (setlB l rs tree)) rfl rfl ?_
 refine l_M (.bool (setlB l rs tree)) rfl rfl ?_
 refine Aa rfl (y_eqlb Tryd.underlying4 (p:=setlB l rs tree) (q:=setlB l rs tree) rfl rfl) ?_
 refine l_M (.bool ((setlB l rs tree) == (setlB l rs tree))) rfl rfl ?_
 refine l_M (iV (setlF l rs tree)) (Ar rfl rfl rfl (by simp)) rfl ?_
 refine l_M (iV (setlF l rs tree)) (Ar rfl rfl rfl (by simp)) rfl ?_
 refine Aa (Ar rfl rfl rfl (by simp)) (Ek (p:=setlF l rs tree) (q:=setlF l rs tree) rfl rfl) ?_
 refine Aa rfl (Bt rfl (by simp) (v:=(.bool (setlF l rs tree == setlF l rs tree))) rfl) ?_
 refine l_M (.bool (setlF l rs tree == setlF l rs tree)) rfl rfl ?_
 refine Ae (Ar rfl rfl rfl (by simp)) (Bn (vs:=[]) (v:=(.bool (true))) (c_tells hg hnr) Tryd.func17 rfl rfl trivial ?_)
 refine Aa rfl (Bt rfl (by simp) (v:=(.bool (true))) rfl) ?_
 refine l_A (.bool (true)) rfl rfl ?_
 apply Ac
 apply k27
 refine Aj (Arw (Arz (Arz l2 l17) l20)) ?_
 refine Aq ?_
 refine hret _ _ _ ?_
 refine ⟨rfl,rfl,Eq.trans (b:=(.bool (true))) rfl ?_⟩
 rfl
end Go.Proofs.YtoefdnbaklajeaaDoor

namespace Go.Proofs.YtoefdnbaklajeaaDoor
open Go Go.WideShapes Go.ChangeShapes Go.RowKit Go.Conc
set_option maxRecDepth 100000
theorem fakeTrees_lifted (os:Os) (started:os.Started) (H:Type) (enc:TypeId × Value→H):ReturnsInLeavingWide {} Tryd.checked os 13 .any (Aqs H enc Rows.fakeTreesSpec Tryd.f13) (Rows.fakeTreesSpec.post enc Tryd.prog Tryd.f13 false true false false):=by
  refine law_lift (r:=6) os started H enc Tryd.func13 rfl rfl (by kernel_rfl) (by decide) (fun ds hd=>?_)
    (ChangeSpec.witness_shaped (enc:=enc) (C:=Tryd.checked) (os:=os) (X:=fun w _=>laidMetH Tryd.prog laidL w) false (World.doorLaid Tryd.prog 2000 os) #[.agg #[.slice none 0 0,.int .i64 0,.slice none 0 0],.slice none 0 0,.slice none 0 0] 8 rfl (World.shaped_of_RefB (by kernel_rfl) (by kernel_rfl)) (by kernel_rfl) (by kernel_rfl) (by kernel_rfl) (door_met os _)) ?_
  · match ds,hd with
    | [d1,d2,d3],_=>rfl
  · intro W args ds ps hv hA hw hg
    obtain ⟨hl1,hl2⟩:=Sa hA
    match args,hl1,ds,hl2,hA with
    | [v1,v2,v3],_,[d1,d2,d3],_,⟨p1,q1,h1,⟨p2,q2,h2,⟨p3,q3,h3,_,_⟩,_⟩,_⟩ =>
      obtain ⟨b1,k1⟩:=hv 0 40 v1 rfl rfl
      obtain ⟨b2,k2⟩:=hv 1 41 v2 rfl rfl
      obtain ⟨b3,k3⟩:=hv 2 49 v3 rfl rfl
      obtain ⟨x1,rx1⟩:=arg_struct dec40 rfl Tryd.underlying40 k1 h1 (weights_at hw (j:=0) rfl rfl)
      obtain ⟨x2,rx2⟩:=arg_slice (dec_list Tryd.underlying41 (by kernel_rfl) (Nat.le_of_ble_eq_true (by kernel_rfl)) (by decide) dec43) Tryd.underlying41 k2 h2 (weights_at hw (j:=1) rfl rfl)
      obtain ⟨x3,rx3⟩:=arg_slice (dec_list Tryd.underlying49 (by kernel_rfl) (Nat.le_of_ble_eq_true (by kernel_rfl)) (by decide) dec94) Tryd.underlying49 k3 h3 (weights_at hw (j:=2) rfl rfl)
      exact c_FakeTrees hg (fun c vs h=>by cases h) rx1 rx2 rx3
theorem fakeTrees_row:Rows.FakeTreesSaid :=
  OpenClaim.holds_of_wide_leaving 13 Tryd.f13 rfl rfl rfl rfl rfl rfl rfl ⟨rfl,rfl,rfl,rfl,rfl⟩ rfl rfl rfl rfl rfl (by kernel_rfl) Tryd.func13 (by kernel_rfl)
    (of_decide_eq_true (by kernel_rfl)) (by unfold Func.isWrapper; first | (rw [if_pos (by decide +kernel)]; kernel_rfl) | (rw [if_neg (by decide +kernel)]; exact ⟨rfl,rfl⟩))
    (fun os started H enc _=>fakeTrees_lifted os started H enc)
theorem fakeTrees_holds:Rows.FakeTreesCardSaid :=
  tied_goes .later [.funcs,.data] true (true,"5ad7a6b1106c4d9dff1ffa762e242e88c7338921ee0cf2e26581c2f653fcb6c6") false fakeTrees_row (by kernel_rfl) fakeTrees_row_tie rfl ⟨rfl,rfl⟩ (by kernel_rfl) rfl
    (fun f fn hf hfn=>by
      obtain rfl:f = 13:=Option.some.inj ((show Tryd.prog.funcNamed "crocus/crocuslaw08.FakeTrees" = some 13 by kernel_rfl).symm.trans hf) |>.symm
      obtain rfl:fn = Tryd.f13:=(Option.some.inj (Tryd.func13.symm.trans hfn)).symm
      exact ⟨by kernel_rfl,fun j t ht=>by
        have h2:t = 40∨t = 41∨t = 49:=by
          match j,ht with
          | 0,h=>exact .inl (Option.some.inj h).symm
          | 1,h=>exact .inr (.inl (Option.some.inj h).symm)
          | 2,h=>exact .inr (.inr ((Option.some.inj h).symm))
        rcases h2 with rfl | rfl | rfl
        · exact (show Tryd.prog.wantsStandIn 40 = false by kernel_rfl)
        · exact (show Tryd.prog.wantsStandIn 41 = false by kernel_rfl)
        · exact (show Tryd.prog.wantsStandIn 49 = false by kernel_rfl)⟩)
    (by kernel_rfl)
end Go.Proofs.YtoefdnbaklajeaaDoor
