/- Every call of crocuslaw08.FakeWet returns true, on every schedule, and leaves its arguments as they were: conditions: the two listed package-level variables hold what the program's text lays. -/
import Derived.Test.YtphgjjmlnkgghaaGreatDoorB4
import Derived.Carry
import Derived.ChangeArms
import Derived.ChangeSame
import Derived.ChangeVars
import Derived.Conc.Holds
import Derived.Conc.LeavingOf
import Derived.FnData
import Derived.LaidHandle
import Derived.LaidLaws
import Derived.LaidMore
import Derived.Laws.BitsAllLaws
import Derived.Laws.BitsLemmas
import Derived.OpenShut
import Derived.RowKit
import Derived.SizedLaws
import Derived.Stop.Joined
import Derived.Test.YtphgjjmlnkgghaaGreatDoorRows
import Derived.WideShapes
set_option linter.unusedVariables false
set_option linter.unusedSimpArgs false
namespace Go.Proofs.YtphgjjmlnkgghaaGreatDoor
open Go
section
variable {C:Ctx} {b:FB} {n:Nat} {l₀ rest:List Oper} {Q:Env→List Deferred→Ro→Own→Prop} {e:Env} {ds:List Deferred} {ρ:Ro} {σ:Own}
end
section
variable {P:Program} {ρ:Ro} {e:Env} {ty t t':TypeId} {x y:Operand} {v:Value}
theorem L4k {op:BinOp} {p q:Bool}:eqGuard op t x y (.bool p) (.bool q) = pure ():=by
  cases op <;> rfl
theorem L5b {op:BinOp} {p q:ByteArray}:eqGuard op t x y (.string p) (.string q) = pure ():=by
  cases op <;> rfl
section
variable {k:IntKind} {p q:Int}
end
end
section
variable {C:Ctx} {b:FB} {n:Nat} {l₀:List Oper} {Q:Env→List Deferred→Ro→Own→Prop} {e:Env} {ds:List Deferred} {ρ ρ₀:Ro} {σ:Own} {pz:List Nat} {fuel:Nat} {listed:Array Bool}
section
variable {d i:Nat} {op:Op} {ty:TypeId} {pos:String} {af:Array Edge} {g:Option (Nat × Bool)} {v:Value} {li:List Bool}
end
end
end Go.Proofs.YtphgjjmlnkgghaaGreatDoor

namespace Go.Proofs.YtphgjjmlnkgghaaGreatDoor
open Go
section
variable {α:Type} [Dat α] {ρ ρ':Ro}
end
section
variable {P:Program} {ρ:Ro} {σ:Own} {t:TypeId}
end
section
variable {C:Ctx} {b:FB} {n:Nat} {l₀ rest:List Oper} {Q:Env→List Deferred→Ro→Own→Prop} {e:Env} {ds:List Deferred} {ρ:Ro} {σ:Own}
variable {d:Nat} {ty:TypeId} {pos:String} {af:Array Edge} {g:Option (Nat × Bool)} {x y:Operand} {v p:Value} {t:TypeId}
/-- A slice's part. -/
theorem L8e {α:Type} [Dat α] {xs:List α} {a:Option Addr} {len cap h:Nat} (hv:Val ρ (.slice a len cap) xs) (hh:h ≤ len):Val ρ (.slice (if cap = 0 then a else a.map (·.add (0 * Dat.k α))) (h - 0) (cap - 0)) (xs.take h):=by
  obtain ⟨a',len',cap',h1,h2,h3,h4,h5⟩:=Cs.1 hv
  cases h1
  refine Cs.2 ⟨a,h,cap,?_,by simp; omega,by omega,by omega,fun i x hx=>?_⟩
  · congr 1
    split
    · rfl
    · cases a with
      | none=>rfl
      | some ad=>simp [Addr.add]
  · rw [List.getElem?_take] at hx
    split at hx
    · exact h5 i x hx
    · cases hx
theorem L6a {P:Program} {α:Type} [Dat α] {xs:List α} {el:TypeId} {k:IntKind} {q:Int} (h:Nat) (hT:P.underlying t = some (.slice el)) (hE:GoTy P el α) (hx:Af e x = v) (hv:Val ρ v xs) (hy:Af e y = .int k q) (hq:q = (h:Int)) (hh:h ≤ xs.length) :
    ∃ w,Val ρ w (xs.take h)∧Yld P ρ e (.slice t x none (some y) none) ty w:=by
  obtain ⟨a,len,cap,h1,h2,h3,h4,h5⟩:=Cs.1 hv
  subst h1
  refine ⟨_,L8e hv (by omega),Mt (s:=Instr.sliceAt t (Af e x) none (some (Af e y)) none) (fun _ _ _ _=>rfl) fun ρ' σ _=>?_⟩
  rw [hx,hy,hq]
  show wpS P ρ' ((underlying t).bind _) σ _
  rw [Ad]
  refine Az hT ?_
  show wpS P ρ' ((underlying t).bind _) σ _
  rw [Ad]
  refine Az hT ?_
  simp only []
  show wpS P ρ' ((Instr.sliceBounds true len cap none (some (.int k h)) none).bind _) σ _
  have hb:Instr.sliceBounds true len cap none (some (.int k (h:Int))) none = pure (0,h,cap):=by
    show (do let m ← pure cap; let hh ← Instr.sliceBound (.int k (h:Int)) m _; let l ← pure 0; pure (l,hh,m):Sem _) = _
    have:Instr.sliceBound (.int k (h:Int)) cap .sliceAcap = pure h:=by
      show (if 0 ≤ (h:Int)∧(h:Int) ≤ cap then pure (h:Int).toNat else _) = _
      rw [if_pos (by omega)]; simp
    show (Instr.sliceBound (.int k (h:Int)) cap .sliceAcap).bind _ = _
    rw [this]; rfl
  rw [hb]
  show wpS P ρ' ((sizeOf el).bind _) σ _
  rw [Ad]
  exact Dx hE.info ⟨rfl,rfl⟩
end
end Go.Proofs.YtphgjjmlnkgghaaGreatDoor

namespace Go.Proofs.YtphgjjmlnkgghaaGreatDoor
open Go
section
variable {C:Ctx} {b:FB} {n:Nat} {l₀ rest:List Oper} {Q:Env→List Deferred→Ro→Own→Prop} {Q':Hu} {e:Env} {ds:List Deferred} {ρ:Ro} {σ:Own}
variable {d:Nat} {ty:TypeId} {pos:String} {af:Array Edge} {g:Option (Nat × Bool)} {x y:Operand} {v p:Value} {t t':TypeId}
section
variable {P:Program}
theorem L9i {k:IntKind} {p q z:Int} (hx:Af e x = .int k p) (hy:Af e y = .int k q) (h0:q ≠ 0) (hz:p.tmod q = z):Yld P ρ e (.binOp .rem t x y t') ty (.int k z) :=
  La hx hy Dh (by subst hz; simp only [binOp]; rw [if_neg (by simp)]; unfold Op.intDiv; rw [if_neg h0])
theorem L9h {k:IntKind} {p q z:Int} (hx:Af e x = .int k p) (hy:Af e y = .int k q) (h0:q ≠ 0) (hz:k.wrap (p.tdiv q) = z):Yld P ρ e (.binOp .quo t x y t') ty (.int k z) :=
  La hx hy Dh (by subst hz; simp only [binOp]; rw [if_neg (by simp)]; unfold Op.intDiv; rw [if_neg h0])
end
section
variable {P:Program}
theorem L9g {p q:ByteArray} (hx:Af e x = .string p) (hy:Af e y = .string q):Yld P ρ e (.binOp .eql t x y t') ty (.bool (p.toList == q.toList)):=La hx hy L5b (by simp only [binOp]; rfl)
end
end
end Go.Proofs.YtphgjjmlnkgghaaGreatDoor

namespace Go.Proofs.YtphgjjmlnkgghaaGreatDoor
open Go
theorem L5z {P:Program} {ρ:Ro} {σ:Own} {t:TypeId} {p q:Bool} (hT:P.underlying t = some .bool) {Q:Bool→Own→Prop} (h:Q (p == q) σ):wpS P ρ (Op.equal t (.bool p) (.bool q)) σ Q:=by
  show wpS P ρ ((underlying t).bind _) σ Q
  rw [Ad]
  exact Az hT h
theorem L9w {P:Program} {ρ:Ro} {e:Env} {ty t t':TypeId} {x y:Operand} {p q:Bool} (hT:P.underlying t = some .bool) (hx:Af e x = .bool p) (hy:Af e y = .bool q):Yld P ρ e (.binOp .eql t x y t') ty (.bool (p == q)) :=
  Mt (s:=(do eqGuard .eql t x y (Af e x) (Af e y); binOp .eql t (Af e x) (Af e y))) (fun _ _ _ _=>rfl) fun ρ' σ _=>by
    rw [hx,hy,L4k]
    show wpS P ρ' ((Op.equal t (.bool p) (.bool q)).bind _) σ _
    rw [Ad]
    exact L5z hT ⟨rfl,rfl⟩
section
variable {mn:Bool} {X:Frame→List Frame→Ro→Own→Cy→Prop} {b:FB} {n:Nat} {e:Env} {ds:List Deferred} {ρ:Ro} {σ:Own} {K:Value→List Deferred→Ro→Own→Prop} {rd:Option Nat} {dd:Option Tmp}
variable {ty:TypeId} {pos:String} {af:Array Edge} {g:Option (Nat × Bool)} {x y:Operand} {v p:Value} {t t':TypeId}
end
end Go.Proofs.YtphgjjmlnkgghaaGreatDoor

namespace Go.Proofs.YtphgjjmlnkgghaaGreatDoor
open Go Go.WideShapes
theorem L8d {n:Nat} (h:n ≤ reachBytes):n < 2 ^ 60:=by unfold reachBytes at h; omega
theorem L1f {t:TypeId} (ht:Tryz.prog.underlying t = some (.int .i64)) (hc:Tryz.prog.cellsOf t = 1):Api Int t :=
  ⟨hc,fun H enc W fuel cs x h _=>by
    obtain ⟨n,h1,_,h3⟩:=DataW.trod_int ht h
    refine ⟨n,h1,?_⟩
    simp [Lit.wf,IntKind.min,IntKind.max,IntKind.signed,IntKind.bits] at h3
    exact ⟨by omega,by omega⟩⟩
theorem L7r {t:TypeId} (ht:Tryz.prog.underlying t = some .bool) (hc:Tryz.prog.cellsOf t = 1):Api Bool t :=
  ⟨hc,fun H enc W fuel cs x h _=>by
    obtain ⟨b,h1,_⟩:=DataW.trod_bool ht h
    exact ⟨b,h1⟩⟩
theorem L6l {α:Type} {P:Nat→α→Prop}:∀ n,(∀ i,i < n→∃ a,P i a)→∃ xs:List α,xs.length = n∧∀ i x,xs[i]? = some x→P i x
  | 0,_=>⟨[],rfl,fun i x h=>by cases h⟩
  | n + 1,h=>by
    obtain ⟨xs,h1,h2⟩:=L6l n fun i hi=>h i (by omega)
    obtain ⟨a,ha⟩:=h n (by omega)
    refine ⟨xs ++ [a],by simp [h1],fun i x hx=>?_⟩
    rcases Nat.lt_or_ge i n with hlt | hge
    · rw [List.getElem?_append_left (by omega)] at hx; exact h2 i x hx
    · have hi:i = n:=by
        have:=(List.getElem?_eq_some_iff.1 hx).1
        simp only [List.length_append,List.length_singleton] at this; omega
      subst hi
      rw [List.getElem?_append_right (by omega),h1,Nat.sub_self] at hx
      cases hx; exact ha
theorem L9e {a:Addr}:a.add 0 = a:=by simp [Addr.add]
theorem L4u {b off i:Nat}:(⟨b,off,none⟩:Addr).add i = ⟨b,off + i,none⟩:=by
  unfold Addr.add; split
  · rename_i h; subst h; rfl
  · rfl
theorem L4b {W:World} {a:Addr} {k:Nat} {cs:List Value} (hk:1 ≤ k) (h:W.cells? 0 a k = some cs):∃ b off c t fz rest,a = ⟨b,off,none⟩∧W.heap[b]? = some (.cells c t fz)∧c.toList.drop off = cs ++ rest∧cs.length = k:=by
  unfold World.cells? at h
  rw [if_pos (Nat.zero_le _)] at h
  have hl:=mapM_some_length h
  rw [List.length_range] at hl
  have hg:∀ j,j < k→W.cell? (a.add j) = cs[j]?:=fun j hj=>mapM_some_get h j j (by rw [List.getElem?_range hj])
  obtain ⟨b,off,spot⟩:=a
  have h0:=hg 0 hk
  rw [L9e] at h0
  obtain ⟨v,hv⟩:∃ v,cs[0]? = some v:=⟨_,List.getElem?_eq_getElem (by omega)⟩
  rw [hv] at h0
  unfold World.cell? at h0
  simp only at h0
  cases hb:W.heap[b]? with
  | none=>rw [hb] at h0; cases h0
  | some o =>
    cases o with
    | cells c t fz =>
      rw [hb] at h0
      simp only at h0
      cases spot with
      | some s=>simp at h0
      | none =>
        refine ⟨b,off,c,t,fz,(c.toList.drop off).drop k,rfl,hb,?_,hl⟩
        have e1:(c.toList.drop off).take k = cs:=by
          apply List.ext_getElem?
          intro j
          rw [List.getElem?_take]
          by_cases hj:j < k
          · rw [if_pos hj,← hg j hj,List.getElem?_drop,L4u]
            unfold World.cell?
            simp only [hb]
            simp
          · rw [if_neg hj,List.getElem?_eq_none (by omega)]
        rw [← e1,List.take_append_drop]
    | _=>rw [hb] at h0; cases h0
theorem L2e {H:Type} {P:Program} {e:TypeId}:∀ {ds:List (DataW H)} {d:DataW H} {n:Nat},d ∈ ds→n ∈ d.weights P e→n ∈ DataW.weightsAll P e ds
  | [],_,_,h,_=>by cases h
  | d' :: ds,d,n,h,hn=>by
    rw [DataW.weightsAll,List.mem_append]
    rcases List.mem_cons.1 h with rfl | h
    · exact .inl hn
    · exact .inr (L2e h hn)
theorem L3h {α:Type} [Dat α] {t e:TypeId} (ht:Tryz.prog.underlying t = some (.slice e)) (hc:Tryz.prog.cellsOf t = 1) (hb:1 ≤ Tryz.prog.bytesOf e) (hk:1 ≤ Dat.k α) (he:Api α e):Api (List α) t :=
  ⟨hc,fun H enc W fuel cs x h hw=>by
    rcases DataW.trod_slice ht h with ⟨h1,_⟩ | ⟨a,len,cap,Av,rest,n,_,h2,h3,_,h5,_,h6,h7,_,_⟩
    · exact ⟨[],_,h1,none,0,0,rfl,rfl,by omega,Nat.le_refl _,fun i x hx=>by cases hx⟩
    · rw [h3] at hw
      simp only [DataW.weights,ht] at hw
      have hlen:len < 2 ^ 60:=by
        have:=hw _ (List.mem_cons_self ..)
        simp only [List.length_map] at this
        refine L8d (Nat.le_trans ?_ this)
        rw [h6]
        exact Nat.le_trans (Nat.le_trans (Nat.le_add_right _ _) (Nat.le_of_eq (Nat.mul_one _).symm)) (Nat.mul_le_mul_left _ hb)
      obtain ⟨xs,hx1,hx2⟩:=L6l (P:=fun i (y:α)=>∃ cs,W.cells? 0 (a.add (i * Tryz.prog.cellsOf e)) (Tryz.prog.cellsOf e) = some cs∧Dat.rep (roW W) cs y) len fun i hi=>by
        have h8:=h7 i hi
        obtain ⟨y,hy⟩:∃ y,Av[i]? = some y:=⟨_,List.getElem?_eq_getElem (by omega)⟩
        rw [hy,Option.bind_eq_some_iff] at h8
        obtain ⟨ci,hc1,hc2⟩:=h8
        obtain ⟨z,hz⟩:=he.2 H enc W n ci y hc2 fun m hm=>hw m (List.mem_cons_of_mem _ (List.mem_append_left _ (L2e (List.mem_map_of_mem (List.mem_of_getElem? hy)) hm)))
        exact ⟨z,ci,hc1,hz⟩
      refine ⟨xs,_,h2,some a,len,cap,rfl,hx1,hlen,h5,fun i y hy=>?_⟩
      obtain ⟨b',off',rfl⟩:∃ b' off',a = ⟨b',off',none⟩:=by
        have hi:=(List.getElem?_eq_some_iff.1 hy).1
        obtain ⟨y0,hy0⟩:∃ y0,xs[0]? = some y0:=⟨_,List.getElem?_eq_getElem (by omega)⟩
        obtain ⟨ci,hc1,_⟩:=hx2 0 y0 hy0
        rw [he.1,Nat.zero_mul,L9e] at hc1
        obtain ⟨b,off,_,_,_,_,h8,_⟩:=L4b hk hc1
        exact ⟨b,off,h8⟩
      obtain ⟨ci,hc1,hc2⟩:=hx2 i y hy
      rw [he.1,L4u] at hc1
      obtain ⟨b,off,c,t',fz,rs,h8,h9,h10,_⟩:=L4b hk hc1
      simp only [Addr.mk.injEq,and_true] at h8
      obtain ⟨rfl,rfl⟩:=h8
      exact ⟨b',off',rfl,b',_,c,t',fz,ci,rs,rfl,Vz h9,hc2,h10⟩⟩
theorem L1l (cs:List Value) (a k:Nat):cs.drop a = (cs.drop a).take k ++ cs.drop (a + k):=by rw [← List.drop_drop,List.take_append_drop]
theorem L0m {H:Type} {enc:TypeId × Value→H} {W:World} {n:Nat} {cs:List Value} {xs:List (DataW H × List MemPlace)} {fs:Array Field} {t:TypeId} (ht:Tryz.prog.underlying t = some (.struct fs)) (hl:xs.length = fs.size) (h:∀ (i:Nat) (f:Field),fs[i]? = some f→DataW.trod enc Tryz.prog W 0 (fun _=>true) true n f.type ((cs.drop f.offset).take (Tryz.prog.cellsOf f.type)) = xs[i]?)
    (hw:∀ m ∈ (DataW.agg (xs.map (·.1)):DataW H).weights Tryz.prog t,m ≤ reachBytes) {α:Type} [Dat α] {i ft off:Nat} {f:Field} (hf:fs[i]? = some f) (h1:f.type = ft) (h2:f.offset = off) (hd:Api α ft):∃ a:α,Dat.rep (roW W) ((cs.drop off).take (Dat.k α)) a:=by
  subst h1 h2
  have hi:=(Array.getElem?_eq_some_iff.1 hf).1
  obtain ⟨y,hy⟩:∃ y,xs[i]? = some y:=⟨_,List.getElem?_eq_getElem (by omega)⟩
  have h3:=h i f hf
  rw [hy,hd.1] at h3
  refine hd.2 H enc W n _ y h3 fun m hm=>hw m ?_
  simp only [DataW.weights,ht]
  exact DataW.weights_mem_each (j:=i) (t:=f.type) (d:=y.1) (by simp [Array.getElem?_toList,hf]) (by simp [hy]) m hm
theorem L9f:Api Span 41:=⟨by kernel_rfl,fun H enc W fuel cs x h hw=>by
  obtain ⟨xs,n,_,rfl,hcl,hl,hf⟩:=DataW.trod_struct Tryz.underlying41 h
  rw [show Tryz.prog.cellsOf 41 = 2 from by kernel_rfl] at hcl
  obtain ⟨a0,r0⟩:=L0m (i:=0) Tryz.underlying41 hl hf hw rfl rfl (show _ = 0 from rfl) (L1f Tryz.underlying3 (by kernel_rfl))
  obtain ⟨a1,r1⟩:=L0m (i:=1) Tryz.underlying41 hl hf hw rfl rfl (show _ = 1 from rfl) (L1f Tryz.underlying3 (by kernel_rfl))
  refine ⟨⟨a0,a1⟩,?_⟩
  have e0:cs = cs.drop 0:=rfl
  rw [e0]
  exact ⟨(cs.drop 0).take 1,cs.drop 1,(L1l cs 0 1).trans (by rfl),r0,(show Dat.rep (roW W) (cs.drop 1) a1 from by (have:=r1; rw [List.take_of_length_le (by rw [List.length_drop,hcl]; decide)] at this; exact this))⟩⟩
end Go.Proofs.YtphgjjmlnkgghaaGreatDoor

namespace Go.Proofs.YtphgjjmlnkgghaaGreatDoor
open Go Go.WideShapes Go.ChangeShapes Go.RowKit Go.Conc
section
variable {H:Type} {enc:TypeId × Value→H} {W:World} {r:Reach} {base t:Nat} {v:Value} {d:DataW H} {p:List MemPlace}
end
theorem L3p {H:Type} {P:Program} {ts:List TypeId} {ds:List (DataW H)} (h:(DataW.weightsEach P ts ds).all (· ≤ reachBytes) = true) {j:Nat} {t:TypeId} {d:DataW H} (ht:ts[j]? = some t) (hd:ds[j]? = some d):∀ n ∈ d.weights P t,n ≤ reachBytes:=fun n hn=>by
  have:=List.all_eq_true.1 h _ (DataW.weights_mem_each ht hd n hn)
  simpa using this
end Go.Proofs.YtphgjjmlnkgghaaGreatDoor

namespace Go.Proofs.YtphgjjmlnkgghaaGreatDoor
open Go
theorem L6n {s:ByteArray}:(List.range s.size).all (Alm s) = true↔∀ j,j < s.size→Alm s j = true:=by simp
theorem L3b {s:ByteArray} {j:Nat} (h:j < s.size) (h0:Alm s j = false):(List.range s.size).all (Alm s) = false:=by
  cases hh:(List.range s.size).all (Alm s) with
  | false=>rfl
  | true=>rw [L6n.1 hh j h] at h0; cases h0
end Go.Proofs.YtphgjjmlnkgghaaGreatDoor

namespace Go.Proofs.YtphgjjmlnkgghaaGreatDoor
set_option maxHeartbeats 1000000
open Go
set_option maxRecDepth 100000 in
theorem L2n {mn:Bool} {X:Frame→List Frame→Ro→Own→Cy→Prop} {ρ:Ro} {σ:Own} {n low high:Int} :CallsH (CX mn X) 52 #[(iV (n)),(iV (low)),(iV (high))] ρ σ (fun w ρ' σ'=>ρ' = ρ∧σ' = σ∧w = (.bool (inR n low high))):=by
 refine Bh (n:=15) (args:=[(iV (n)),(iV (low)),(iV (high))]) [6] Tryz.func52 rfl rfl rfl rfl fun Q hret hnor=>?_
 refine w_q rfl rfl fun K1 k1=>?_
 refine l_v (Cp (v:=(.bool (false))) rfl) ?_
 refine Arx rfl rfl k1 fun K2 k2=>?_
 refine l_v (Ah (v:=(iV (low))) rfl) ?_
 refine l_v (Ah (v:=(iV (n))) rfl) ?_
 refine l_v (Uz rfl rfl) ?_
 refine l_v (Ah (v:=(.bool (decide (low ≤ n)))) rfl) ?_
 refine Cn (decide (low ≤ n)) (fun b3=>?_) (fun b3=>?_)
 ·have q3:=of_decide_eq_true b3
  refine l_M (iV (n)) (Ar rfl rfl rfl b3) rfl ?_
  refine l_M (iV (high)) (Ar rfl rfl rfl b3) rfl ?_
  refine Aa (Ar rfl rfl rfl b3) (Uz rfl rfl) ?_
  refine l_v (Bt rfl b3 (v:=(.bool (decide (n ≤ high)))) rfl) ?_
  refine l_v (Cp (v:=(.bool (decide (n ≤ high)))) rfl) ?_
  refine l_k k2 ?_
  refine Aq ?_
  refine hret _ _ _ ⟨rfl,rfl,Eq.trans (b:=(.bool (decide (n ≤ high)))) rfl ?_⟩
  simp only [inR,b3,Bool.true_and,Bool.false_and,Bool.and_true,Bool.and_false,Bool.true_or,Bool.false_or,Bool.or_true,Bool.or_false,Bool.not_true,Bool.not_false]
 have q3:=of_decide_eq_false b3
 refine Ap (Bl rfl rfl rfl b3) ?_
 refine Ap (Bl rfl rfl rfl b3) ?_
 refine Ap (Bl rfl rfl rfl b3) ?_
 refine l_v (Bn rfl b3 (v:=(.bool (false))) rfl) ?_
 refine l_v (Cp (v:=(.bool (false))) rfl) ?_
 refine l_k k2 ?_
 refine Aq ?_
 refine hret _ _ _ ⟨rfl,rfl,Eq.trans (b:=(.bool (false))) rfl ?_⟩
 simp only [inR,b3,Bool.true_and,Bool.false_and,Bool.and_true,Bool.and_false,Bool.true_or,Bool.false_or,Bool.or_true,Bool.or_false,Bool.not_true,Bool.not_false]
set_option maxRecDepth 100000 in
theorem L2o {mn:Bool} {X:Frame→List Frame→Ro→Own→Cy→Prop} {ρ:Ro} {σ:Own} {x:Span} {vx:Value} {low high:Int} (rx:Val ρ vx x):CallsH (CX mn X) 33 #[vx,(iV (low)),(iV (high))] ρ σ (fun w ρ' σ'=>ρ' = ρ∧σ' = σ∧w = (.bool (Ef x low high))):=by
 refine Bh (n:=24) (args:=[vx,(iV (low)),(iV (high))]) [6] Tryz.func33 rfl rfl rfl rfl fun Q hret hnor=>?_
 refine w_q rfl rfl fun K1 k1=>?_
 refine Arv (Eb (v:=vx) rfl fun k2=>?_)
 refine Bb (a:=x) rx fun ρ2 l2 r2=>?_
 refine l_v (Cp (v:=(.bool (false))) rfl) ?_
 refine Arx rfl rfl k1 fun K3 k3=>?_
 refine l_v (Ah (v:=(iV (low))) rfl) ?_
 refine Arw (Ay Span.f_low Tryz.underlying41 rfl rfl ty3 (by decide) rfl r2) fun v4 r4=>?_
 have ⟨g5a,g5b⟩:=At.rng r4
 refine l_v (Bc ty3 rfl r4) ?_
 refine l_v (Uz rfl rfl) ?_
 refine l_v (Ah (v:=(.bool (decide (low ≤ x.low)))) rfl) ?_
 refine Cn (decide (low ≤ x.low)) (fun b6=>?_) (fun b6=>?_)
 ·have q6:=of_decide_eq_true b6
  refine Ak (Ar rfl rfl rfl b6) (Ay Span.f_low Tryz.underlying41 rfl rfl ty3 (by decide) rfl r2) fun v7 r7=>?_
  have ⟨g8a,g8b⟩:=At.rng r7
  refine Aa (Ar rfl rfl rfl b6) (Bc ty3 rfl r7) ?_
  refine Ak (Ar rfl rfl rfl b6) (Ay Span.f_high Tryz.underlying41 rfl rfl ty3 (by decide) rfl r2) fun v9 r9=>?_
  have ⟨g10a,g10b⟩:=At.rng r9
  refine Aa (Ar rfl rfl rfl b6) (Bc ty3 rfl r9) ?_
  refine Aa (Ar rfl rfl rfl b6) (Uz rfl rfl) ?_
  refine l_v (Bt rfl b6 (v:=(.bool (decide (x.low ≤ x.high)))) rfl) ?_
  refine l_v (Ah (v:=(.bool (decide (x.low ≤ x.high)))) rfl) ?_
  refine Cn (decide (x.low ≤ x.high)) (fun b11=>?_) (fun b11=>?_)
  ·have q11:=of_decide_eq_true b11
   refine Ak (Ar rfl rfl rfl b11) (Ay Span.f_high Tryz.underlying41 rfl rfl ty3 (by decide) rfl r2) fun v12 r12=>?_
   have ⟨g13a,g13b⟩:=At.rng r12
   refine Aa (Ar rfl rfl rfl b11) (Bc ty3 rfl r12) ?_
   refine l_M (iV (high)) (Ar rfl rfl rfl b11) rfl ?_
   refine Aa (Ar rfl rfl rfl b11) (Uz rfl rfl) ?_
   refine l_v (Bt rfl b11 (v:=(.bool (decide (x.high ≤ high)))) rfl) ?_
   refine l_v (Cp (v:=(.bool (decide (x.high ≤ high)))) rfl) ?_
   refine l_k k3 ?_
   refine Aj (Asf l2) ?_
   refine Aq ?_
   refine hret _ _ _ ⟨rfl,rfl,Eq.trans (b:=(.bool (decide (x.high ≤ high)))) rfl ?_⟩
   simp only [Ef,b6,b11,Bool.true_and,Bool.false_and,Bool.and_true,Bool.and_false,Bool.true_or,Bool.false_or,Bool.or_true,Bool.or_false,Bool.not_true,Bool.not_false]
  have q11:=of_decide_eq_false b11
  refine Ap (Bl rfl rfl rfl b11) ?_
  refine Ap (Bl rfl rfl rfl b11) ?_
  refine Ap (Bl rfl rfl rfl b11) ?_
  refine Ap (Bl rfl rfl rfl b11) ?_
  refine l_v (Bn rfl b11 (v:=(.bool (false))) rfl) ?_
  refine l_v (Cp (v:=(.bool (false))) rfl) ?_
  refine l_k k3 ?_
  refine Aj (Asf l2) ?_
  refine Aq ?_
  refine hret _ _ _ ⟨rfl,rfl,Eq.trans (b:=(.bool (false))) rfl ?_⟩
  simp only [Ef,b6,b11,Bool.true_and,Bool.false_and,Bool.and_true,Bool.and_false,Bool.true_or,Bool.false_or,Bool.or_true,Bool.or_false,Bool.not_true,Bool.not_false]
 have q6:=of_decide_eq_false b6
 refine Ap (Bl rfl rfl rfl b6) ?_
 refine Ap (Bl rfl rfl rfl b6) ?_
 refine Ap (Bl rfl rfl rfl b6) ?_
 refine Ap (Bl rfl rfl rfl b6) ?_
 refine Ap (Bl rfl rfl rfl b6) ?_
 refine l_v (Bn rfl b6 (v:=(.bool (false))) rfl) ?_
 refine l_v (Ah (v:=(.bool (false))) rfl) ?_
 refine Ap (Bl rfl rfl rfl rfl) ?_
 refine Ap (Bl rfl rfl rfl rfl) ?_
 refine Ap (Bl rfl rfl rfl rfl) ?_
 refine Ap (Bl rfl rfl rfl rfl) ?_
 refine l_v (Bn rfl rfl (v:=(.bool (false))) rfl) ?_
 refine l_v (Cp (v:=(.bool (false))) rfl) ?_
 refine l_k k3 ?_
 refine Aj (Asf l2) ?_
 refine Aq ?_
 refine hret _ _ _ ⟨rfl,rfl,Eq.trans (b:=(.bool (false))) rfl ?_⟩
 simp only [Ef,b6,Bool.true_and,Bool.false_and,Bool.and_true,Bool.and_false,Bool.true_or,Bool.false_or,Bool.or_true,Bool.or_false,Bool.not_true,Bool.not_false]
set_option maxRecDepth 100000 in
theorem L7j {mn:Bool} {X:Frame→List Frame→Ro→Own→Cy→Prop} {ρ:Ro} {σ:Own} {s:ByteArray} :CallsH (CX mn X) 51 #[(.string (s))] ρ σ (fun w ρ' σ'=>ρ' = ρ∧σ' = σ∧w = (.bool (Hg s))):=by
 refine Bh (n:=46) (args:=[(.string (s))]) [2] Tryz.func51 rfl rfl rfl rfl fun Q hret hnor=>?_
 refine w_q rfl rfl fun K1 k1=>?_
 refine l_v (Cp (v:=(.bool (false))) rfl) ?_
 refine Ary rfl rfl k1 fun K2 K3 k2 k3=>?_
 refine l_v (Ah (v:=(.string (s))) rfl) ?_
 refine l_v (Afz Tryz.underlying9 (s:=s) rfl) ?_
 refine Arv (Bm (L2n) Tryz.func52 rfl rfl ⟨rfl,rfl,rfl,trivial⟩ ?_)
 refine l_v (Iy rfl) ?_
 refine l_v (Ah (v:=(.bool (!(inR (((s.size:Nat):Int)) 1 14)))) rfl) ?_
 refine Cn (!(inR (((s.size:Nat):Int)) 1 14)) (fun b4=>?_) (fun b4=>?_)
 ·have b5:=not_eq_t b4
  have q5:=Tr.1 b5
  refine Ap (Bl rfl rfl rfl b4) ?_
  refine Ap (Bl rfl rfl rfl b4) ?_
  refine Ap (Bl rfl rfl rfl b4) ?_
  refine l_v (Bt rfl b4 (v:=(.bool (true))) rfl) ?_
  refine l_v (Ah (v:=(.bool (true))) rfl) ?_
  refine Ap (Bl rfl rfl rfl rfl) ?_
  refine Ap (Bl rfl rfl rfl rfl) ?_
  refine Ap (Bl rfl rfl rfl rfl) ?_
  refine l_v (Bt rfl rfl (v:=(.bool (true))) rfl) ?_
  refine l_k k3 ?_
  refine Co rfl rfl ?_
  refine w_q rfl rfl fun K6 k6=>?_
  refine l_v (Cp (v:=(.bool (false))) rfl) ?_
  refine l_k k6 ?_
  refine Aq ?_
  refine hret _ _ _ ⟨rfl,rfl,Eq.trans (b:=(.bool (false))) rfl ?_⟩
  simp only [Hg,Qb,b4,b5,Bool.true_and,Bool.false_and,Bool.and_true,Bool.and_false,Bool.true_or,Bool.false_or,Bool.or_true,Bool.or_false,Bool.not_true,Bool.not_false]
 have b7:=not_eq_f b4
 have q7:=Fz.1 b7
 refine l_M (.string (s)) (Ar rfl rfl rfl b4) rfl ?_
 obtain ⟨c8,hc8⟩:=Alc (s:=s) (i:=0) (by omega)
 refine Aa (Ar rfl rfl rfl b4) (Ace 0 c8 Tryz.underlying9 rfl (q:=0) rfl rfl hc8) ?_
 refine Aa (Ar rfl rfl rfl b4) (Da rfl rfl) ?_
 refine l_v (Bn rfl b4 (v:=(.bool (decide (((c8.toNat:Nat):Int) < 97)))) rfl) ?_
 refine l_v (Ah (v:=(.bool (decide (((c8.toNat:Nat):Int) < 97)))) rfl) ?_
 refine Cn (decide (((c8.toNat:Nat):Int) < 97)) (fun b9=>?_) (fun b9=>?_)
 ·have q9:=of_decide_eq_true b9
  refine Ap (Bl rfl rfl rfl b9) ?_
  refine Ap (Bl rfl rfl rfl b9) ?_
  refine Ap (Bl rfl rfl rfl b9) ?_
  refine l_v (Bt rfl b9 (v:=(.bool (true))) rfl) ?_
  refine l_k k3 ?_
  refine Co rfl rfl ?_
  refine w_q rfl rfl fun K10 k10=>?_
  refine l_v (Cp (v:=(.bool (false))) rfl) ?_
  refine l_k k10 ?_
  refine Aq ?_
  refine hret _ _ _ ⟨rfl,rfl,Eq.trans (b:=(.bool (false))) rfl ?_⟩
  simp only [Hg,Qb,hc8,b4,b7,b9,Bool.true_and,Bool.false_and,Bool.and_true,Bool.and_false,Bool.true_or,Bool.false_or,Bool.or_true,Bool.or_false,Bool.not_true,Bool.not_false]
 have q9:=of_decide_eq_false b9
 refine l_M (.string (s)) (Ar rfl rfl rfl b9) rfl ?_
 refine Aa (Ar rfl rfl rfl b9) (Ace 0 c8 Tryz.underlying9 rfl (q:=0) rfl rfl hc8) ?_
 refine Aa (Ar rfl rfl rfl b9) (Gl rfl rfl) ?_
 refine l_v (Bn rfl b9 (v:=(.bool (decide (((c8.toNat:Nat):Int) > 122)))) rfl) ?_
 refine l_k k3 ?_
 refine As (t:=decide (((c8.toNat:Nat):Int) > 122)) rfl (fun b12=>?_) (fun b12=>?_)
 ·have q12:=of_decide_eq_true b12
  refine w_q rfl rfl fun K13 k13=>?_
  refine l_v (Cp (v:=(.bool (false))) rfl) ?_
  refine l_k k13 ?_
  refine Aq ?_
  refine hret _ _ _ ⟨rfl,rfl,Eq.trans (b:=(.bool (false))) rfl ?_⟩
  simp only [Hg,Qb,hc8,b4,b7,b9,b12,Bool.true_and,Bool.false_and,Bool.and_true,Bool.and_false,Bool.true_or,Bool.false_or,Bool.or_true,Bool.or_false,Bool.not_true,Bool.not_false]
 have q12:=of_decide_eq_false b12
 refine Al ?_
 apply k2
 refine Asb rfl rfl fun K14 K15 k14 k15=>?_
 refine l_v (Cp (v:=(iV (0))) rfl) ?_
 refine l_k k15 ?_
 refine Ao ?_
 refine Cc (fun mm ee dd ρ' σ'=>∃ (i:Nat),(s.size - i) = mm∧[] = dd∧ρ = ρ'∧σ = σ'∧ee 0 = (.string (s))∧ee 3 = (iV ((i:Int)))∧(i ≤ s.size)∧(∀ j,j < i→Alm s j = true)∧True) (m:=_) ⟨0,rfl,rfl,rfl,rfl,rfl,rfl,(Nat.zero_le _),(fun j h=>absurd h (Nat.not_lt_zero _)),trivial⟩ ?_
 rintro m16 e16 _ _ _ ⟨i,rfl,rfl,rfl,rfl,h16_0,h16_3,p16_0,p16_1,_⟩
 refine Asb rfl rfl fun K17 K18 k17 k18=>?_
 refine l_v (Ah (v:=(iV ((i:Int)))) h16_3) ?_
 refine l_v (Ah (v:=(.string (s))) h16_0) ?_
 refine l_v (Afz Tryz.underlying9 (s:=s) rfl) ?_
 refine l_v (Da rfl rfl) ?_
 refine l_k k18 ?_
 refine As (t:=decide ((i:Int) < ((s.size:Nat):Int))) rfl (fun b19=>?_) (fun b19=>?_)
 ·have q19:=of_decide_eq_true b19
  refine Al ?_
  apply k17
  refine Ai fun K20 k20=>?_
  refine Ao ?_
  refine w_q rfl rfl fun K21 k21=>?_
  refine l_v (Ah (v:=(.string (s))) h16_0) ?_
  refine l_v (Ah (v:=(iV ((i:Int)))) h16_3) ?_
  obtain ⟨c22,hc22⟩:=Alc (s:=s) (i:=i) (by omega)
  refine l_v (Ace i c22 Tryz.underlying9 rfl (q:=(i:Int)) rfl rfl hc22) ?_
  refine l_v (Cp (v:=(.int .u8 (((c22.toNat:Nat):Int)))) rfl) ?_
  refine Arx rfl rfl k21 fun K23 k23=>?_
  refine l_v (Ah (v:=(.int .u8 (((c22.toNat:Nat):Int)))) rfl) ?_
  refine l_v (Da rfl rfl) ?_
  refine l_v (Ah (v:=(.bool (decide (((c22.toNat:Nat):Int) < 97)))) rfl) ?_
  refine Cn (decide (((c22.toNat:Nat):Int) < 97)) (fun b24=>?_) (fun b24=>?_)
  ·have q24:=of_decide_eq_true b24
   refine Ap (Bl rfl rfl rfl b24) ?_
   refine Ap (Bl rfl rfl rfl b24) ?_
   refine l_v (Bt rfl b24 (v:=(.bool (true))) rfl) ?_
   refine l_v (Ah (v:=(.bool (true))) rfl) ?_
   refine l_M (.int .u8 (((c22.toNat:Nat):Int))) (Ar rfl rfl rfl rfl) rfl ?_
   refine Aa (Ar rfl rfl rfl rfl) (Da rfl rfl) ?_
   refine l_M (.bool (decide (((c22.toNat:Nat):Int) < 48))) (Ar rfl rfl rfl rfl) rfl ?_
   refine Cn (decide (((c22.toNat:Nat):Int) < 48)) (fun b25=>?_) (fun b25=>?_)
   ·have q25:=of_decide_eq_true b25
    refine Ap (Bl rfl rfl rfl b25) ?_
    refine Ap (Bl rfl rfl rfl b25) ?_
    refine Aa (Ar rfl rfl rfl rfl) (Bt rfl b25 (v:=(.bool (true))) rfl) ?_
    refine l_v (Bt rfl rfl (v:=(.bool (true))) rfl) ?_
    refine l_v (Ah (v:=(.bool (true))) rfl) ?_
    refine l_M (.int .u8 (((c22.toNat:Nat):Int))) (Ar rfl rfl rfl rfl) rfl ?_
    refine Aa (Ar rfl rfl rfl rfl) (Dg rfl rfl) ?_
    refine l_v (Bt rfl rfl (v:=(.bool (((c22.toNat:Nat):Int) != 45))) rfl) ?_
    refine l_k k23 ?_
    refine As (t:=((c22.toNat:Nat):Int) != 45) rfl (fun b26=>?_) (fun b26=>?_)
    ·have q26:=Ls b26
     refine w_q rfl rfl fun K27 k27=>?_
     refine l_v (Cp (v:=(.bool (false))) rfl) ?_
     refine l_k k27 ?_
     refine Aq ?_
     refine hret _ _ _ ⟨rfl,rfl,Eq.trans (b:=(.bool (false))) rfl ?_⟩
     have hbad:Alm s i = false:=by simp only [Alm,hc22,Ov,b4,b7,b9,b12,b19,b24,b25,b26,Bool.true_and,Bool.false_and,Bool.and_true,Bool.and_false,Bool.true_or,Bool.false_or,Bool.or_true,Bool.or_false,Bool.not_true,Bool.not_false]
     have hall:=L3b (by omega) hbad
     simp only [Hg,hall,b4,b7,b9,b12,b19,b24,b25,b26,Bool.true_and,Bool.false_and,Bool.and_true,Bool.and_false,Bool.true_or,Bool.false_or,Bool.or_true,Bool.or_false,Bool.not_true,Bool.not_false]
    have q26:=Jh b26
    refine Al ?_
    apply k20
    refine Ag rfl rfl ?_
    refine l_v (Ah (v:=(iV ((i:Int)))) h16_3) ?_
    refine l_v (Br rfl rfl (z:=(((i + 1):Nat):Int)) (Bo (by first | rfl | omega | (push_cast; rfl)) (by omega) (by omega))) ?_
    refine l_v (Cp (v:=(iV ((((i + 1):Nat):Int)))) rfl) ?_
    apply Ac
    refine ⟨_,?_,((i + 1)),rfl,rfl,rfl,rfl,h16_0,rfl,(by omega),(Eg p16_1 (by simp only [Alm,hc22,Ov,b4,b7,b9,b12,b19,b24,b25,b26,Bool.true_and,Bool.false_and,Bool.and_true,Bool.and_false,Bool.true_or,Bool.false_or,Bool.or_true,Bool.or_false,Bool.not_true,Bool.not_false])),trivial⟩
    omega
   have q25:=of_decide_eq_false b25
   refine l_M (.int .u8 (((c22.toNat:Nat):Int))) (Ar rfl rfl rfl b25) rfl ?_
   refine Aa (Ar rfl rfl rfl b25) (Gl rfl rfl) ?_
   refine Aa (Ar rfl rfl rfl rfl) (Bn rfl b25 (v:=(.bool (decide (((c22.toNat:Nat):Int) > 57)))) rfl) ?_
   refine l_v (Bt rfl rfl (v:=(.bool (decide (((c22.toNat:Nat):Int) > 57)))) rfl) ?_
   refine l_v (Ah (v:=(.bool (decide (((c22.toNat:Nat):Int) > 57)))) rfl) ?_
   refine Cn (decide (((c22.toNat:Nat):Int) > 57)) (fun b28=>?_) (fun b28=>?_)
   ·have q28:=of_decide_eq_true b28
    refine l_M (.int .u8 (((c22.toNat:Nat):Int))) (Ar rfl rfl rfl b28) rfl ?_
    refine Aa (Ar rfl rfl rfl b28) (Dg rfl rfl) ?_
    refine l_v (Bt rfl b28 (v:=(.bool (((c22.toNat:Nat):Int) != 45))) rfl) ?_
    refine l_k k23 ?_
    refine As (t:=((c22.toNat:Nat):Int) != 45) rfl (fun b29=>?_) (fun b29=>?_)
    ·have q29:=Ls b29
     refine w_q rfl rfl fun K30 k30=>?_
     refine l_v (Cp (v:=(.bool (false))) rfl) ?_
     refine l_k k30 ?_
     refine Aq ?_
     refine hret _ _ _ ⟨rfl,rfl,Eq.trans (b:=(.bool (false))) rfl ?_⟩
     have hbad:Alm s i = false:=by simp only [Alm,hc22,Ov,b4,b7,b9,b12,b19,b24,b25,b28,b29,Bool.true_and,Bool.false_and,Bool.and_true,Bool.and_false,Bool.true_or,Bool.false_or,Bool.or_true,Bool.or_false,Bool.not_true,Bool.not_false]
     have hall:=L3b (by omega) hbad
     simp only [Hg,hall,b4,b7,b9,b12,b19,b24,b25,b28,b29,Bool.true_and,Bool.false_and,Bool.and_true,Bool.and_false,Bool.true_or,Bool.false_or,Bool.or_true,Bool.or_false,Bool.not_true,Bool.not_false]
    have q29:=Jh b29
    refine Al ?_
    apply k20
    refine Ag rfl rfl ?_
    refine l_v (Ah (v:=(iV ((i:Int)))) h16_3) ?_
    refine l_v (Br rfl rfl (z:=(((i + 1):Nat):Int)) (Bo (by first | rfl | omega | (push_cast; rfl)) (by omega) (by omega))) ?_
    refine l_v (Cp (v:=(iV ((((i + 1):Nat):Int)))) rfl) ?_
    apply Ac
    refine ⟨_,?_,((i + 1)),rfl,rfl,rfl,rfl,h16_0,rfl,(by omega),(Eg p16_1 (by simp only [Alm,hc22,Ov,b4,b7,b9,b12,b19,b24,b25,b28,b29,Bool.true_and,Bool.false_and,Bool.and_true,Bool.and_false,Bool.true_or,Bool.false_or,Bool.or_true,Bool.or_false,Bool.not_true,Bool.not_false])),trivial⟩
    omega
   have q28:=of_decide_eq_false b28
   refine Ap (Bl rfl rfl rfl b28) ?_
   refine Ap (Bl rfl rfl rfl b28) ?_
   refine l_v (Bn rfl b28 (v:=(.bool (false))) rfl) ?_
   refine l_k k23 ?_
   refine Cg rfl rfl ?_
   refine Al ?_
   apply k20
   refine Ag rfl rfl ?_
   refine l_v (Ah (v:=(iV ((i:Int)))) h16_3) ?_
   refine l_v (Br rfl rfl (z:=(((i + 1):Nat):Int)) (Bo (by first | rfl | omega | (push_cast; rfl)) (by omega) (by omega))) ?_
   refine l_v (Cp (v:=(iV ((((i + 1):Nat):Int)))) rfl) ?_
   apply Ac
   refine ⟨_,?_,((i + 1)),rfl,rfl,rfl,rfl,h16_0,rfl,(by omega),(Eg p16_1 (by simp only [Alm,hc22,Ov,b4,b7,b9,b12,b19,b24,b25,b28,Bool.true_and,Bool.false_and,Bool.and_true,Bool.and_false,Bool.true_or,Bool.false_or,Bool.or_true,Bool.or_false,Bool.not_true,Bool.not_false])),trivial⟩
   omega
  have q24:=of_decide_eq_false b24
  refine l_M (.int .u8 (((c22.toNat:Nat):Int))) (Ar rfl rfl rfl b24) rfl ?_
  refine Aa (Ar rfl rfl rfl b24) (Gl rfl rfl) ?_
  refine l_v (Bn rfl b24 (v:=(.bool (decide (((c22.toNat:Nat):Int) > 122)))) rfl) ?_
  refine l_v (Ah (v:=(.bool (decide (((c22.toNat:Nat):Int) > 122)))) rfl) ?_
  refine Cn (decide (((c22.toNat:Nat):Int) > 122)) (fun b31=>?_) (fun b31=>?_)
  ·have q31:=of_decide_eq_true b31
   refine l_M (.int .u8 (((c22.toNat:Nat):Int))) (Ar rfl rfl rfl b31) rfl ?_
   refine Aa (Ar rfl rfl rfl b31) (Da rfl rfl) ?_
   refine l_M (.bool (decide (((c22.toNat:Nat):Int) < 48))) (Ar rfl rfl rfl b31) rfl ?_
   refine Cn (decide (((c22.toNat:Nat):Int) < 48)) (fun b32=>?_) (fun b32=>?_)
   ·have q32:=of_decide_eq_true b32
    refine Ap (Bl rfl rfl rfl b32) ?_
    refine Ap (Bl rfl rfl rfl b32) ?_
    refine Aa (Ar rfl rfl rfl b31) (Bt rfl b32 (v:=(.bool (true))) rfl) ?_
    refine l_v (Bt rfl b31 (v:=(.bool (true))) rfl) ?_
    refine l_v (Ah (v:=(.bool (true))) rfl) ?_
    refine l_M (.int .u8 (((c22.toNat:Nat):Int))) (Ar rfl rfl rfl rfl) rfl ?_
    refine Aa (Ar rfl rfl rfl rfl) (Dg rfl rfl) ?_
    refine l_v (Bt rfl rfl (v:=(.bool (((c22.toNat:Nat):Int) != 45))) rfl) ?_
    refine l_k k23 ?_
    refine As (t:=((c22.toNat:Nat):Int) != 45) rfl (fun b33=>?_) (fun b33=>?_)
    ·have q33:=Ls b33
     refine w_q rfl rfl fun K34 k34=>?_
     refine l_v (Cp (v:=(.bool (false))) rfl) ?_
     refine l_k k34 ?_
     refine Aq ?_
     refine hret _ _ _ ⟨rfl,rfl,Eq.trans (b:=(.bool (false))) rfl ?_⟩
     have hbad:Alm s i = false:=by simp only [Alm,hc22,Ov,b4,b7,b9,b12,b19,b24,b31,b32,b33,Bool.true_and,Bool.false_and,Bool.and_true,Bool.and_false,Bool.true_or,Bool.false_or,Bool.or_true,Bool.or_false,Bool.not_true,Bool.not_false]
     have hall:=L3b (by omega) hbad
     simp only [Hg,hall,b4,b7,b9,b12,b19,b24,b31,b32,b33,Bool.true_and,Bool.false_and,Bool.and_true,Bool.and_false,Bool.true_or,Bool.false_or,Bool.or_true,Bool.or_false,Bool.not_true,Bool.not_false]
    have q33:=Jh b33
    refine Al ?_
    apply k20
    refine Ag rfl rfl ?_
    refine l_v (Ah (v:=(iV ((i:Int)))) h16_3) ?_
    refine l_v (Br rfl rfl (z:=(((i + 1):Nat):Int)) (Bo (by first | rfl | omega | (push_cast; rfl)) (by omega) (by omega))) ?_
    refine l_v (Cp (v:=(iV ((((i + 1):Nat):Int)))) rfl) ?_
    apply Ac
    refine ⟨_,?_,((i + 1)),rfl,rfl,rfl,rfl,h16_0,rfl,(by omega),(Eg p16_1 (by simp only [Alm,hc22,Ov,b4,b7,b9,b12,b19,b24,b31,b32,b33,Bool.true_and,Bool.false_and,Bool.and_true,Bool.and_false,Bool.true_or,Bool.false_or,Bool.or_true,Bool.or_false,Bool.not_true,Bool.not_false])),trivial⟩
    omega
   have q32:=of_decide_eq_false b32
   refine l_M (.int .u8 (((c22.toNat:Nat):Int))) (Ar rfl rfl rfl b32) rfl ?_
   refine Aa (Ar rfl rfl rfl b32) (Gl rfl rfl) ?_
   refine Aa (Ar rfl rfl rfl b31) (Bn rfl b32 (v:=(.bool (decide (((c22.toNat:Nat):Int) > 57)))) rfl) ?_
   refine l_v (Bt rfl b31 (v:=(.bool (decide (((c22.toNat:Nat):Int) > 57)))) rfl) ?_
   refine l_v (Ah (v:=(.bool (decide (((c22.toNat:Nat):Int) > 57)))) rfl) ?_
   refine Cn (decide (((c22.toNat:Nat):Int) > 57)) (fun b35=>?_) (fun b35=>?_)
   ·have q35:=of_decide_eq_true b35
    refine l_M (.int .u8 (((c22.toNat:Nat):Int))) (Ar rfl rfl rfl b35) rfl ?_
    refine Aa (Ar rfl rfl rfl b35) (Dg rfl rfl) ?_
    refine l_v (Bt rfl b35 (v:=(.bool (((c22.toNat:Nat):Int) != 45))) rfl) ?_
    refine l_k k23 ?_
    refine As (t:=((c22.toNat:Nat):Int) != 45) rfl (fun b36=>?_) (fun b36=>?_)
    ·have q36:=Ls b36
     refine w_q rfl rfl fun K37 k37=>?_
     refine l_v (Cp (v:=(.bool (false))) rfl) ?_
     refine l_k k37 ?_
     refine Aq ?_
     refine hret _ _ _ ⟨rfl,rfl,Eq.trans (b:=(.bool (false))) rfl ?_⟩
     have hbad:Alm s i = false:=by simp only [Alm,hc22,Ov,b4,b7,b9,b12,b19,b24,b31,b32,b35,b36,Bool.true_and,Bool.false_and,Bool.and_true,Bool.and_false,Bool.true_or,Bool.false_or,Bool.or_true,Bool.or_false,Bool.not_true,Bool.not_false]
     have hall:=L3b (by omega) hbad
     simp only [Hg,hall,b4,b7,b9,b12,b19,b24,b31,b32,b35,b36,Bool.true_and,Bool.false_and,Bool.and_true,Bool.and_false,Bool.true_or,Bool.false_or,Bool.or_true,Bool.or_false,Bool.not_true,Bool.not_false]
    have q36:=Jh b36
    refine Al ?_
    apply k20
    refine Ag rfl rfl ?_
    refine l_v (Ah (v:=(iV ((i:Int)))) h16_3) ?_
    refine l_v (Br rfl rfl (z:=(((i + 1):Nat):Int)) (Bo (by first | rfl | omega | (push_cast; rfl)) (by omega) (by omega))) ?_
    refine l_v (Cp (v:=(iV ((((i + 1):Nat):Int)))) rfl) ?_
    apply Ac
    refine ⟨_,?_,((i + 1)),rfl,rfl,rfl,rfl,h16_0,rfl,(by omega),(Eg p16_1 (by simp only [Alm,hc22,Ov,b4,b7,b9,b12,b19,b24,b31,b32,b35,b36,Bool.true_and,Bool.false_and,Bool.and_true,Bool.and_false,Bool.true_or,Bool.false_or,Bool.or_true,Bool.or_false,Bool.not_true,Bool.not_false])),trivial⟩
    omega
   have q35:=of_decide_eq_false b35
   refine Ap (Bl rfl rfl rfl b35) ?_
   refine Ap (Bl rfl rfl rfl b35) ?_
   refine l_v (Bn rfl b35 (v:=(.bool (false))) rfl) ?_
   refine l_k k23 ?_
   refine Cg rfl rfl ?_
   refine Al ?_
   apply k20
   refine Ag rfl rfl ?_
   refine l_v (Ah (v:=(iV ((i:Int)))) h16_3) ?_
   refine l_v (Br rfl rfl (z:=(((i + 1):Nat):Int)) (Bo (by first | rfl | omega | (push_cast; rfl)) (by omega) (by omega))) ?_
   refine l_v (Cp (v:=(iV ((((i + 1):Nat):Int)))) rfl) ?_
   apply Ac
   refine ⟨_,?_,((i + 1)),rfl,rfl,rfl,rfl,h16_0,rfl,(by omega),(Eg p16_1 (by simp only [Alm,hc22,Ov,b4,b7,b9,b12,b19,b24,b31,b32,b35,Bool.true_and,Bool.false_and,Bool.and_true,Bool.and_false,Bool.true_or,Bool.false_or,Bool.or_true,Bool.or_false,Bool.not_true,Bool.not_false])),trivial⟩
   omega
  have q31:=of_decide_eq_false b31
  refine Ap (Bl rfl rfl rfl b31) ?_
  refine Ap (Bl rfl rfl rfl b31) ?_
  refine Ap (Bl rfl rfl rfl b31) ?_
  refine Ap (Jf rfl rfl rfl) ?_
  refine Ap (Jf rfl rfl rfl) ?_
  refine Ap (Bl rfl rfl rfl b31) ?_
  refine l_v (Bn rfl b31 (v:=(.bool (false))) rfl) ?_
  refine l_v (Ah (v:=(.bool (false))) rfl) ?_
  refine Ap (Bl rfl rfl rfl rfl) ?_
  refine Ap (Bl rfl rfl rfl rfl) ?_
  refine l_v (Bn rfl rfl (v:=(.bool (false))) rfl) ?_
  refine l_k k23 ?_
  refine Cg rfl rfl ?_
  refine Al ?_
  apply k20
  refine Ag rfl rfl ?_
  refine l_v (Ah (v:=(iV ((i:Int)))) h16_3) ?_
  refine l_v (Br rfl rfl (z:=(((i + 1):Nat):Int)) (Bo (by first | rfl | omega | (push_cast; rfl)) (by omega) (by omega))) ?_
  refine l_v (Cp (v:=(iV ((((i + 1):Nat):Int)))) rfl) ?_
  apply Ac
  refine ⟨_,?_,((i + 1)),rfl,rfl,rfl,rfl,h16_0,rfl,(by omega),(Eg p16_1 (by simp only [Alm,hc22,Ov,b4,b7,b9,b12,b19,b24,b31,Bool.true_and,Bool.false_and,Bool.and_true,Bool.and_false,Bool.true_or,Bool.false_or,Bool.or_true,Bool.or_false,Bool.not_true,Bool.not_false])),trivial⟩
  omega
 have q19:=of_decide_eq_false b19
 refine Bx ?_
 apply k14
 refine w_q rfl rfl fun K38 k38=>?_
 refine l_v (Cp (v:=(.bool (true))) rfl) ?_
 refine l_k k38 ?_
 refine Aq ?_
 refine hret _ _ _ ⟨rfl,rfl,Eq.trans (b:=(.bool (true))) rfl ?_⟩
 have hall:=L6n.2 fun j hj=>p16_1 j (by omega)
 simp only [Hg,Qb,hall,hc8,b4,b7,b9,b12,b19,Bool.true_and,Bool.false_and,Bool.and_true,Bool.and_false,Bool.true_or,Bool.false_or,Bool.or_true,Bool.or_false,Bool.not_true,Bool.not_false]
set_option maxRecDepth 100000 in
theorem L9o {mn:Bool} {X:Frame→List Frame→Ro→Own→Cy→Prop} {ρ:Ro} {σ:Own} {l:List ByteArray} {vl:Value} {s:ByteArray} (rl:Val ρ vl l):CallsH (CX mn X) 109 #[vl,(.string (s))] ρ σ (fun w ρ' σ'=>ρ' = ρ∧σ' = σ∧w = (iV (Aht l s))):=by
 refine Bh (n:=19) (args:=[vl,(.string (s))]) [4] Tryz.func109 rfl rfl rfl rfl fun Q hret hnor=>?_
 refine w_q rfl rfl fun K1 k1=>?_
 refine l_v (Cp (v:=(iV (0))) rfl) ?_
 refine Ary rfl rfl k1 fun K2 K3 k2 k3=>?_
 refine l_v (Cp (v:=(iV (0))) rfl) ?_
 refine l_k k3 ?_
 refine Ao ?_
 refine Cc (fun mm ee dd ρ' σ'=>∃ (i:Nat),(l.length - i) = mm∧[] = dd∧ρ = ρ'∧σ = σ'∧ee 0 = vl∧ee 1 = (.string (s))∧ee 5 = (iV ((i:Int)))∧(i ≤ l.length)∧(∀ j,j < i→Xi l s j = false)∧True) (m:=_) ⟨0,rfl,rfl,rfl,rfl,rfl,rfl,rfl,(Nat.zero_le _),(fun j h=>absurd h (Nat.not_lt_zero _)),trivial⟩ ?_
 rintro m4 e4 _ _ _ ⟨i,rfl,rfl,rfl,rfl,h4_0,h4_1,h4_5,p4_0,p4_1,_⟩
 refine Asb rfl rfl fun K5 K6 k5 k6=>?_
 refine l_v (Ah (v:=(iV ((i:Int)))) h4_5) ?_
 refine l_v (Ah (v:=vl) h4_0) ?_
 have g7:=Val.len rl
 refine l_v (Ci (el:=9) Tryz.underlying32 rfl rl) ?_
 refine l_v (Da rfl rfl) ?_
 refine l_k k6 ?_
 refine As (t:=decide ((i:Int) < ((l.length:Nat):Int))) rfl (fun b8=>?_) (fun b8=>?_)
 ·have q8:=of_decide_eq_true b8
  refine Al ?_
  apply k5
  refine Ai fun K9 k9=>?_
  refine Ao ?_
  refine w_q rfl rfl fun K10 k10=>?_
  refine l_v (Ah (v:=vl) h4_0) ?_
  refine l_v (Ah (v:=(iV ((i:Int)))) h4_5) ?_
  obtain ⟨a12,ha12⟩:=Ed (xs:=l) (i:=i) (by omega)
  refine Arw (Ch i Tryz.underlying32 ty9 rfl rl (q:=(i:Int)) rfl rfl ha12) fun v11 r11=>?_
  have g13:=At.slen r11
  refine l_v (Pk ty9 rfl r11) ?_
  refine l_v (Ah (v:=(.string (s))) h4_1) ?_
  refine l_v (L9g (p:=a12) (q:=s) rfl rfl) ?_
  refine l_k k10 ?_
  refine As (t:=(a12).toList == (s).toList) rfl (fun b14=>?_) (fun b14=>?_)
  ·have q14:=Jr b14
   refine w_q rfl rfl fun K15 k15=>?_
   refine l_v (Ah (v:=(iV ((i:Int)))) h4_5) ?_
   refine l_v (Cp (v:=(iV ((i:Int)))) rfl) ?_
   refine l_k k15 ?_
   refine Aq ?_
   refine hret _ _ _ ⟨rfl,rfl,Eq.trans (b:=(iV ((i:Int)))) rfl ?_⟩
   have hi:=Fh (n:=l.length) p4_1 (by omega) (show Xi l s i = true by simp only [Xi,ha12,b8,b14])
   simp only [Aht,hi]
  have q14:=Jq b14
  refine Al ?_
  apply k9
  refine Ag rfl rfl ?_
  refine l_v (Ah (v:=(iV ((i:Int)))) h4_5) ?_
  refine l_v (Br rfl rfl (z:=(((i + 1):Nat):Int)) (Bo (by first | rfl | omega | (push_cast; rfl)) (by omega) (by omega))) ?_
  refine l_v (Cp (v:=(iV ((((i + 1):Nat):Int)))) rfl) ?_
  apply Ac
  refine ⟨_,?_,((i + 1)),rfl,rfl,rfl,rfl,h4_0,h4_1,rfl,(by omega),(Eg p4_1 (by simp only [Xi,ha12,b8,b14])),trivial⟩
  omega
 have q8:=of_decide_eq_false b8
 refine Bx ?_
 apply k2
 refine w_q rfl rfl fun K16 k16=>?_
 refine l_v (Cp (v:=(iV ((-1)))) rfl) ?_
 refine l_k k16 ?_
 refine Aq ?_
 refine hret _ _ _ ⟨rfl,rfl,Eq.trans (b:=(iV ((-1)))) rfl ?_⟩
 have hn:=Ep (n:=l.length) fun j hj=>p4_1 j (by omega)
 simp only [Aht,hn]
set_option maxRecDepth 100000 in
theorem L6h {mn:Bool} {X:Frame→List Frame→Ro→Own→Cy→Prop} {ρ:Ro} {σ:Own} {l:List ByteArray} {vl:Value} {most:Int} (rl:Val ρ vl l):CallsH (CX mn X) 50 #[vl,(iV (most))] ρ σ (fun w ρ' σ'=>ρ' = ρ∧σ' = σ∧w = (iV (Dd l most))):=by
 refine Bh (n:=31) (args:=[vl,(iV (most))]) [4] Tryz.func50 rfl rfl rfl rfl fun Q hret hnor=>?_
 refine w_q rfl rfl fun K1 k1=>?_
 refine l_v (Cp (v:=(iV (0))) rfl) ?_
 refine Ary rfl rfl k1 fun K2 K3 k2 k3=>?_
 refine l_v (Ah (v:=vl) rfl) ?_
 have g4:=Val.len rl
 refine l_v (Ci (el:=9) Tryz.underlying32 rfl rl) ?_
 refine l_v (Ah (v:=(iV (most))) rfl) ?_
 refine l_v (Gl rfl rfl) ?_
 refine l_k k3 ?_
 refine As (t:=decide (((l.length:Nat):Int) > most)) rfl (fun b5=>?_) (fun b5=>?_)
 ·have q5:=of_decide_eq_true b5
  refine w_q rfl rfl fun K6 k6=>?_
  refine l_v (Cp (v:=(iV (2))) rfl) ?_
  refine l_k k6 ?_
  refine Aq ?_
  refine hret _ _ _ ⟨rfl,rfl,Eq.trans (b:=(iV (2))) rfl ?_⟩
  rw [Dd,if_pos (by omega)]
 have q5:=of_decide_eq_false b5
 refine Al ?_
 apply k2
 refine Asb rfl rfl fun K7 K8 k7 k8=>?_
 refine l_v (Cp (v:=(iV (0))) rfl) ?_
 refine l_k k8 ?_
 refine Ao ?_
 refine Cc (fun mm ee dd ρ' σ'=>∃ (i:Nat),(l.length - i) = mm∧[] = dd∧ρ = ρ'∧σ = σ'∧ee 0 = vl∧ee 5 = (iV ((i:Int)))∧(i ≤ l.length)∧(∀ j,j < i→Nh l j = 0)∧True) (m:=_) ⟨0,rfl,rfl,rfl,rfl,rfl,rfl,(Nat.zero_le _),(fun j h=>absurd h (Nat.not_lt_zero _)),trivial⟩ ?_
 rintro m9 e9 _ _ _ ⟨i,rfl,rfl,rfl,rfl,h9_0,h9_5,p9_0,p9_1,_⟩
 refine Asb rfl rfl fun K10 K11 k10 k11=>?_
 refine l_v (Ah (v:=(iV ((i:Int)))) h9_5) ?_
 refine l_v (Ah (v:=vl) h9_0) ?_
 have g12:=Val.len rl
 refine l_v (Ci (el:=9) Tryz.underlying32 rfl rl) ?_
 refine l_v (Da rfl rfl) ?_
 refine l_k k11 ?_
 refine As (t:=decide ((i:Int) < ((l.length:Nat):Int))) rfl (fun b13=>?_) (fun b13=>?_)
 ·have q13:=of_decide_eq_true b13
  refine Al ?_
  apply k10
  refine Ai fun K14 k14=>?_
  refine Ao ?_
  refine Asb rfl rfl fun K15 K16 k15 k16=>?_
  refine l_v (Ah (v:=vl) h9_0) ?_
  refine l_v (Ah (v:=(iV ((i:Int)))) h9_5) ?_
  obtain ⟨a18,ha18⟩:=Ed (xs:=l) (i:=i) (by omega)
  refine Arw (Ch i Tryz.underlying32 ty9 rfl rl (q:=(i:Int)) rfl rfl ha18) fun v17 r17=>?_
  have g19:=At.slen r17
  refine l_v (Pk ty9 rfl r17) ?_
  refine Arv (Bm (L7j) Tryz.func51 rfl rfl ⟨rfl,trivial⟩ ?_)
  refine l_v (Iy rfl) ?_
  refine l_k k16 ?_
  refine As (t:=!(Hg a18)) rfl (fun b20=>?_) (fun b20=>?_)
  ·have b21:=not_eq_t b20
   refine w_q rfl rfl fun K22 k22=>?_
   refine l_v (Cp (v:=(iV (4))) rfl) ?_
   refine l_k k22 ?_
   refine Aq ?_
   refine hret _ _ _ ⟨rfl,rfl,Eq.trans (b:=(iV (4))) rfl ?_⟩
   have hf:Nh l i = 4:=by simp only [Nh,ha18,b5,b13,b20,b21]; first | rfl | omega | (simp; done) | (simp; omega)
   rw [Dd,if_neg (by omega),Db p9_1 (by omega) hf (by omega)]
  have b23:=not_eq_f b20
  refine Al ?_
  apply k15
  refine Ai fun K24 k24=>?_
  refine Dc [0,1,2,3,4,5,6,7,8] (by kernel_rfl) rfl rfl ?_
  refine Bd (i:=0) Aos rfl (by kernel_rfl) rfl Ash rfl (Ah (v:=vl) h9_0) ?_
  refine Bd (i:=1) Aot rfl (by kernel_rfl) rfl Ash rfl (Ah (v:=(iV ((i:Int)))) h9_5) ?_
  refine Cd (i:=2) Aou rfl (by kernel_rfl) rfl Ash rfl (L6a i Tryz.underlying32 ty9 rfl rl (q:=(i:Int)) rfl rfl (by omega)) fun v25 r25=>?_
  refine Bd (i:=3) Aov rfl (by kernel_rfl) rfl Ash rfl (Ah (v:=vl) h9_0) ?_
  refine Bg (i:=4) Aow rfl (by kernel_rfl) rfl Ash rfl (Ah (v:=(iV ((i:Int)))) h9_5) ?_
  refine Hk (i:=5) Aox rfl (by kernel_rfl) rfl Ash rfl (Ch i Tryz.underlying32 ty9 rfl rl (q:=(i:Int)) rfl rfl ha18) fun v26 r26=>?_
  have g27:=At.slen r26
  refine Bg (i:=6) Aoy rfl (by kernel_rfl) rfl Ash rfl (Pk ty9 rfl r26) ?_
  refine Dj (i:=7) Aoz rfl (by kernel_rfl) rfl rfl (Bm (L9o r25) Tryz.func109 rfl rfl ⟨rfl,rfl,trivial⟩ ⟨Ash,?_⟩)
  refine Bg (i:=8) Apa rfl (by kernel_rfl) rfl Ash rfl (Uy rfl rfl) ?_
  refine Ec rfl ?_
  apply k24
  refine As (t:=decide (Aht ((l.take i)) a18 ≥ 0)) rfl (fun b28=>?_) (fun b28=>?_)
  ·have q28:=of_decide_eq_true b28
   refine w_q rfl rfl fun K29 k29=>?_
   refine l_v (Cp (v:=(iV (5))) rfl) ?_
   refine l_k k29 ?_
   refine Aq ?_
   refine hret _ _ _ ⟨rfl,rfl,Eq.trans (b:=(iV (5))) rfl ?_⟩
   have hf:Nh l i = 5:=by simp only [Nh,ha18,b5,b13,b20,b23,b28]; first | rfl | omega | (simp; done) | (simp; omega)
   rw [Dd,if_neg (by omega),Db p9_1 (by omega) hf (by omega)]
  have q28:=of_decide_eq_false b28
  refine Al ?_
  apply k14
  refine Ag rfl rfl ?_
  refine l_v (Ah (v:=(iV ((i:Int)))) h9_5) ?_
  refine l_v (Br rfl rfl (z:=(((i + 1):Nat):Int)) (Bo (by first | rfl | omega | (push_cast; rfl)) (by omega) (by omega))) ?_
  refine l_v (Cp (v:=(iV ((((i + 1):Nat):Int)))) rfl) ?_
  apply Ac
  refine ⟨_,?_,((i + 1)),rfl,rfl,rfl,rfl,h9_0,rfl,(by omega),(Eg p9_1 (by simp only [Nh,ha18,b5,b13,b20,b23,b28]; first | rfl | omega | (simp; done) | (simp; omega))),trivial⟩
  omega
 have q13:=of_decide_eq_false b13
 refine Bx ?_
 apply k7
 refine w_q rfl rfl fun K30 k30=>?_
 refine l_v (Cp (v:=(iV (0))) rfl) ?_
 refine l_k k30 ?_
 refine Aq ?_
 refine hret _ _ _ ⟨rfl,rfl,Eq.trans (b:=(iV (0))) rfl ?_⟩
 rw [Dd,if_neg (by omega),Fb fun j hj=>p9_1 j (by omega)]
end Go.Proofs.YtphgjjmlnkgghaaGreatDoor

namespace Go.Proofs.YtphgjjmlnkgghaaGreatDoor
set_option maxHeartbeats 1000000
open Go
set_option maxRecDepth 100000 in
theorem L4i {mn:Bool} {X:Frame→List Frame→Ro→Own→Cy→Prop} {ρ:Ro} {σ:Own} {l:List Span} {vl:Value} {many:Int} (rl:Val ρ vl l):CallsH (CX mn X) 53 #[vl,(iV (many))] ρ σ (fun w ρ' σ'=>ρ' = ρ∧σ' = σ∧w = (iV (Fm l many))):=by
 refine Bh (n:=22) (args:=[vl,(iV (many))]) [4] Tryz.func53 rfl rfl rfl rfl fun Q hret hnor=>?_
 refine w_q rfl rfl fun K1 k1=>?_
 refine l_v (Cp (v:=(iV (0))) rfl) ?_
 refine Ary rfl rfl k1 fun K2 K3 k2 k3=>?_
 refine l_v (Ah (v:=vl) rfl) ?_
 have g4:=Val.len rl
 refine l_v (Ci (el:=41) Tryz.underlying26 rfl rl) ?_
 refine l_v (Ah (v:=(iV (many))) rfl) ?_
 refine l_v (Dg rfl rfl) ?_
 refine l_k k3 ?_
 refine As (t:=((l.length:Nat):Int) != many) rfl (fun b5=>?_) (fun b5=>?_)
 ·have q5:=Ls b5
  refine w_q rfl rfl fun K6 k6=>?_
  refine l_v (Cp (v:=(iV (2))) rfl) ?_
  refine l_k k6 ?_
  refine Aq ?_
  refine hret _ _ _ ⟨rfl,rfl,Eq.trans (b:=(iV (2))) rfl ?_⟩
  rw [Fm,if_neg (by omega)]
 have q5:=Jh b5
 refine Al ?_
 apply k2
 refine Asb rfl rfl fun K7 K8 k7 k8=>?_
 refine l_v (Cp (v:=(iV (0))) rfl) ?_
 refine l_k k8 ?_
 refine Ao ?_
 refine Cc (fun mm ee dd ρ' σ'=>∃ (i:Nat),(l.length - i) = mm∧[] = dd∧ρ = ρ'∧σ = σ'∧ee 0 = vl∧ee 5 = (iV ((i:Int)))∧(i ≤ l.length)∧(∀ j,j < i→Nn l j = 0)∧True) (m:=_) ⟨0,rfl,rfl,rfl,rfl,rfl,rfl,(Nat.zero_le _),(fun j h=>absurd h (Nat.not_lt_zero _)),trivial⟩ ?_
 rintro m9 e9 _ _ _ ⟨i,rfl,rfl,rfl,rfl,h9_0,h9_5,p9_0,p9_1,_⟩
 refine Asb rfl rfl fun K10 K11 k10 k11=>?_
 refine l_v (Ah (v:=(iV ((i:Int)))) h9_5) ?_
 refine l_v (Ah (v:=vl) h9_0) ?_
 have g12:=Val.len rl
 refine l_v (Ci (el:=41) Tryz.underlying26 rfl rl) ?_
 refine l_v (Da rfl rfl) ?_
 refine l_k k11 ?_
 refine As (t:=decide ((i:Int) < ((l.length:Nat):Int))) rfl (fun b13=>?_) (fun b13=>?_)
 ·have q13:=of_decide_eq_true b13
  refine Al ?_
  apply k10
  refine Ai fun K14 k14=>?_
  refine Ao ?_
  refine w_q rfl rfl fun K15 k15=>?_
  refine l_v (Ah (v:=vl) h9_0) ?_
  refine l_v (Ah (v:=(iV ((i:Int)))) h9_5) ?_
  obtain ⟨a17,ha17⟩:=Ed (xs:=l) (i:=i) (by omega)
  refine Arw (Ch i Tryz.underlying26 Mx rfl rl (q:=(i:Int)) rfl rfl ha17) fun v16 r16=>?_
  refine Arw (Ax Mx rfl r16) fun v18 r18=>?_
  refine Arv (Bm (L2o r18) Tryz.func33 rfl rfl ⟨rfl,rfl,rfl,trivial⟩ ?_)
  refine l_v (Iy rfl) ?_
  refine l_k k15 ?_
  refine As (t:=!(Ef a17 0 1000)) rfl (fun b19=>?_) (fun b19=>?_)
  ·have b20:=not_eq_t b19
   refine w_q rfl rfl fun K21 k21=>?_
   refine l_v (Cp (v:=(iV (1))) rfl) ?_
   refine l_k k21 ?_
   refine Aq ?_
   refine hret _ _ _ ⟨rfl,rfl,Eq.trans (b:=(iV (1))) rfl ?_⟩
   have hf:Nn l i = 1:=by simp [Nn,ha17,b5,b13,b19,b20,q5,q13]
   rw [Fm,if_pos (by omega),Db p9_1 (by omega) hf (by omega)]
  have b22:=not_eq_f b19
  refine Al ?_
  apply k14
  refine Ag rfl rfl ?_
  refine l_v (Ah (v:=(iV ((i:Int)))) h9_5) ?_
  refine l_v (Br rfl rfl (z:=(((i + 1):Nat):Int)) (Bo (by first | rfl | omega | (push_cast; rfl)) (by omega) (by omega))) ?_
  refine l_v (Cp (v:=(iV ((((i + 1):Nat):Int)))) rfl) ?_
  apply Ac
  refine ⟨_,?_,((i + 1)),rfl,rfl,rfl,rfl,h9_0,rfl,(by omega),(Eg p9_1 (by simp [Nn,ha17,b5,b13,b19,b22,q5,q13])),trivial⟩
  omega
 have q13:=of_decide_eq_false b13
 refine Bx ?_
 apply k7
 refine w_q rfl rfl fun K23 k23=>?_
 refine l_v (Cp (v:=(iV (0))) rfl) ?_
 refine l_k k23 ?_
 refine Aq ?_
 refine hret _ _ _ ⟨rfl,rfl,Eq.trans (b:=(iV (0))) rfl ?_⟩
 rw [Fm,if_pos (by omega),Fb fun j hj=>p9_1 j (by omega)]
set_option maxRecDepth 100000 in
theorem L3s {mn:Bool} {X:Frame→List Frame→Ro→Own→Cy→Prop} {ρ:Ro} {σ:Own} {m:Market} {vm:Value} (rm:Val ρ vm m):CallsH (CX mn X) 13 #[vm] ρ σ (fun w ρ' σ'=>ρ' = ρ∧σ' = σ∧w = (iV (Cf m))):=by
 refine Bh (n:=137) (args:=[vm]) [2] Tryz.func13 rfl rfl rfl rfl fun Q hret hnor=>?_
 refine w_q rfl rfl fun K1 k1=>?_
 refine Arv (Eb (v:=vm) rfl fun k2=>?_)
 refine Bb (a:=m) rm fun ρ2 l2 r2=>?_
 refine l_v (Cp (v:=(iV (0))) rfl) ?_
 refine Ary rfl rfl k1 fun K3 K4 k3 k4=>?_
 refine Arw (Ay Market.f_houses Tryz.underlying36 rfl rfl Hw (by decide) rfl r2) fun v5 r5=>?_
 refine Arw (Ax Hw rfl r5) fun v6 r6=>?_
 refine Arv (Bm (L6h r6) Tryz.func50 rfl rfl ⟨rfl,rfl,trivial⟩ ?_)
 refine l_v (Cp (v:=(iV (Dd m.houses 5))) rfl) ?_
 refine Arx rfl rfl k4 fun K7 k7=>?_
 refine l_v (Ah (v:=(iV (Dd m.houses 5))) rfl) ?_
 refine l_v (Dg rfl rfl) ?_
 refine l_k k7 ?_
 refine As (t:=Dd m.houses 5 != 0) rfl (fun b8=>?_) (fun b8=>?_)
 ·have q8:=Ls b8
  refine w_q rfl rfl fun K9 k9=>?_
  refine l_v (Ah (v:=(iV (Dd m.houses 5))) rfl) ?_
  refine l_v (Cp (v:=(iV (Dd m.houses 5))) rfl) ?_
  refine l_k k9 ?_
  refine Aj (Asf l2) ?_
  refine Aq ?_
  refine hret _ _ _ ⟨rfl,rfl,Eq.trans (b:=(iV (Dd m.houses 5))) rfl ?_⟩
  rw [Cf,Ry q8]
 have q8:=Jh b8
 refine Al ?_
 apply k3
 refine Asb rfl rfl fun K10 K11 k10 k11=>?_
 refine Arw (Ay Market.f_marks Tryz.underlying36 rfl rfl Hw (by decide) rfl r2) fun v12 r12=>?_
 refine Arw (Ax Hw rfl r12) fun v13 r13=>?_
 refine Arv (Bm (L6h r13) Tryz.func50 rfl rfl ⟨rfl,rfl,trivial⟩ ?_)
 refine l_v (Cp (v:=(iV (Dd m.marks 4))) rfl) ?_
 refine Arx rfl rfl k11 fun K14 k14=>?_
 refine l_v (Ah (v:=(iV (Dd m.marks 4))) rfl) ?_
 refine l_v (Dg rfl rfl) ?_
 refine l_k k14 ?_
 refine As (t:=Dd m.marks 4 != 0) rfl (fun b15=>?_) (fun b15=>?_)
 ·have q15:=Ls b15
  refine w_q rfl rfl fun K16 k16=>?_
  refine l_v (Ah (v:=(iV (Dd m.marks 4))) rfl) ?_
  refine l_v (Cp (v:=(iV (Dd m.marks 4))) rfl) ?_
  refine l_k k16 ?_
  refine Aj (Asf l2) ?_
  refine Aq ?_
  refine hret _ _ _ ⟨rfl,rfl,Eq.trans (b:=(iV (Dd m.marks 4))) rfl ?_⟩
  rw [Cf,Gr q8,Ry q15]
 have q15:=Jh b15
 refine Al ?_
 apply k10
 refine Asb rfl rfl fun K17 K18 k17 k18=>?_
 refine Arw (Ay Market.f_fields Tryz.underlying36 rfl rfl Se (by decide) rfl r2) fun v19 r19=>?_
 refine Arw (Ax Se rfl r19) fun v20 r20=>?_
 have g21:=Val.len r20
 refine l_v (Ci (el:=47) Tryz.underlying33 rfl r20) ?_
 refine l_v (Gl rfl rfl) ?_
 refine l_k k18 ?_
 refine As (t:=decide (((m.fields.length:Nat):Int) > 6)) rfl (fun b22=>?_) (fun b22=>?_)
 ·have q22:=of_decide_eq_true b22
  refine w_q rfl rfl fun K23 k23=>?_
  refine l_v (Cp (v:=(iV (2))) rfl) ?_
  refine l_k k23 ?_
  refine Aj (Asf l2) ?_
  refine Aq ?_
  refine hret _ _ _ ⟨rfl,rfl,Eq.trans (b:=(iV (2))) rfl ?_⟩
  rw [Cf,Gr q8,Gr q15,Ew,if_pos q22,Ry (by omega)]
 have q22:=of_decide_eq_false b22
 refine Al ?_
 apply k17
 refine Asb rfl rfl fun K24 K25 k24 k25=>?_
 refine l_v (Cp (v:=(iV (0))) rfl) ?_
 refine l_k k25 ?_
 refine Ao ?_
 refine Cc (fun mm ee dd ρ' σ'=>∃ (i:Nat),(m.fields.length - i) = mm∧[] = dd∧ρ2 = ρ'∧σ = σ'∧ee 1 = (.pointer (some ⟨k2,0,none⟩))∧ee 5 = (iV ((i:Int)))∧(i ≤ m.fields.length)∧(∀ j,j < i→fieldAt m j = 0)∧True) (m:=_) ⟨0,rfl,rfl,rfl,rfl,rfl,rfl,(Nat.zero_le _),(fun j h=>absurd h (Nat.not_lt_zero _)),trivial⟩ ?_
 rintro m26 e26 _ _ _ ⟨i,rfl,rfl,rfl,rfl,h26_1,h26_5,p26_0,p26_1,_⟩
 refine Asb rfl rfl fun K27 K28 k27 k28=>?_
 refine l_v (Ah (v:=(iV ((i:Int)))) h26_5) ?_
 refine Arw (Ay Market.f_fields Tryz.underlying36 rfl rfl Se (by decide) h26_1 r2) fun v29 r29=>?_
 refine Arw (Ax Se rfl r29) fun v30 r30=>?_
 have g31:=Val.len r30
 refine l_v (Ci (el:=47) Tryz.underlying33 rfl r30) ?_
 refine l_v (Da rfl rfl) ?_
 refine l_k k28 ?_
 refine As (t:=decide ((i:Int) < ((m.fields.length:Nat):Int))) rfl (fun b32=>?_) (fun b32=>?_)
 ·have q32:=of_decide_eq_true b32
  refine Al ?_
  apply k27
  refine Ai fun K33 k33=>?_
  refine Ao ?_
  refine w_q rfl rfl fun K34 k34=>?_
  refine Arw (Ay Market.f_fields Tryz.underlying36 rfl rfl Se (by decide) h26_1 r2) fun v35 r35=>?_
  refine Arw (Ax Se rfl r35) fun v36 r36=>?_
  refine l_v (Ah (v:=(iV ((i:Int)))) h26_5) ?_
  obtain ⟨a38,ha38⟩:=Ed (xs:=m.fields) (i:=i) (by omega)
  refine Arw (Ch i Tryz.underlying33 Lo rfl r36 (q:=(i:Int)) rfl rfl ha38) fun v37 r37=>?_
  refine Arw (Ax Lo rfl r37) fun v39 r39=>?_
  refine Arv (Ct Xu fun k40=>?_)
  refine Cx rfl (Dv (v:=v39) (a:=a38) (c:=Aah) Lo rfl rfl r39 rfl ?_)
  refine Bb (a:=a38) r39 fun ρ41 l41 r41=>?_
  replace r2:=At.mono l41 r2
  refine Ary rfl rfl k34 fun K42 K43 k42 k43=>?_
  refine Arw (Ay FField.f_name Tryz.underlying47 rfl rfl ty9 (by decide) rfl r41) fun v44 r44=>?_
  have g45:=At.slen r44
  refine l_v (Pk ty9 rfl r44) ?_
  refine Arv (Bm (L7j) Tryz.func51 rfl rfl ⟨rfl,trivial⟩ ?_)
  refine l_v (Iy rfl) ?_
  refine l_k k43 ?_
  refine As (t:=!(Hg a38.name)) rfl (fun b46=>?_) (fun b46=>?_)
  ·have b47:=not_eq_t b46
   refine w_q rfl rfl fun K48 k48=>?_
   refine l_v (Cp (v:=(iV (4))) rfl) ?_
   refine l_k k48 ?_
   refine Aj (Asf (Asi l2 l41)) ?_
   refine Aq ?_
   refine hret _ _ _ ⟨rfl,rfl,Eq.trans (b:=(iV (4))) rfl ?_⟩
   have hf:fieldAt m i = 4:=by simp [fieldAt,ha38,b8,b15,b22,b32,b46,b47,q8,q15,q22,q32]
   have hF:Ew m = 4:=by rw [Ew,if_neg (by omega),Db p26_1 (by omega) hf (by omega)]
   rw [Cf,Gr q8,Gr q15,hF,Ry (by omega)]
  have b49:=not_eq_f b46
  refine Al ?_
  apply k42
  refine Asb rfl rfl fun K50 K51 k50 k51=>?_
  refine l_v (Cp (v:=(iV (0))) rfl) ?_
  refine l_k k51 ?_
  refine Ao ?_
  refine Cc (fun mm ee dd ρ' σ'=>∃ (k:Nat),(i - k) = mm∧[] = dd∧ρ41 = ρ'∧σ = σ'∧ee 1 = (.pointer (some ⟨k2,0,none⟩))∧ee 5 = (iV ((i:Int)))∧ee 6 = (.pointer (some ⟨k40,0,none⟩))∧ee 7 = (iV ((k:Int)))∧(k ≤ i)∧(∀ j,j < k→Mk m a38.name j = false)∧True) (m:=_) ⟨0,rfl,rfl,rfl,rfl,h26_1,h26_5,rfl,rfl,(Nat.zero_le _),(fun j h=>absurd h (Nat.not_lt_zero _)),trivial⟩ ?_
  rintro m52 e52 _ _ _ ⟨k,rfl,rfl,rfl,rfl,h52_1,h52_5,h52_6,h52_7,p52_0,p52_1,_⟩
  refine Asb rfl rfl fun K53 K54 k53 k54=>?_
  refine l_v (Ah (v:=(iV ((k:Int)))) h52_7) ?_
  refine l_v (Ah (v:=(iV ((i:Int)))) h52_5) ?_
  refine l_v (Da rfl rfl) ?_
  refine l_k k54 ?_
  refine As (t:=decide ((k:Int) < (i:Int))) rfl (fun b55=>?_) (fun b55=>?_)
  ·have q55:=of_decide_eq_true b55
   refine Al ?_
   apply k53
   refine Ai fun K56 k56=>?_
   refine Ao ?_
   refine Ai fun K57 k57=>?_
   refine Dc [0,1,2,3,4,5,6,7,8] (by kernel_rfl) rfl rfl ?_
   refine Cd (i:=0) Aos rfl (by kernel_rfl) rfl Ash rfl (Ay Market.f_fields Tryz.underlying36 rfl rfl Se (by decide) h52_1 r2) fun v58 r58=>?_
   refine Cd (i:=1) Aot rfl (by kernel_rfl) rfl Ash rfl (Ax Se rfl r58) fun v59 r59=>?_
   refine Bd (i:=2) Aou rfl (by kernel_rfl) rfl Ash rfl (Ah (v:=(iV ((k:Int)))) h52_7) ?_
   obtain ⟨a61,ha61⟩:=Ed (xs:=m.fields) (i:=k) (by omega)
   refine Cd (i:=3) Aov rfl (by kernel_rfl) rfl Ash rfl (Ch k Tryz.underlying33 Lo rfl r59 (q:=(k:Int)) rfl rfl ha61) fun v60 r60=>?_
   refine Cd (i:=4) Aow rfl (by kernel_rfl) rfl Ash rfl (Ay FField.f_name Tryz.underlying47 rfl rfl ty9 (by decide) rfl r60) fun v62 r62=>?_
   have g63:=At.slen r62
   refine Bd (i:=5) Aox rfl (by kernel_rfl) rfl Ash rfl (Pk ty9 rfl r62) ?_
   refine Hk (i:=6) Aoy rfl (by kernel_rfl) rfl Ash rfl (Ay FField.f_name Tryz.underlying47 rfl rfl ty9 (by decide) h52_6 r41) fun v64 r64=>?_
   have g65:=At.slen r64
   refine Bg (i:=7) Aoz rfl (by kernel_rfl) rfl Ash rfl (Pk ty9 rfl r64) ?_
   refine Bg (i:=8) Apa rfl (by kernel_rfl) rfl Ash rfl (L9g (p:=a61.name) (q:=a38.name) rfl rfl) ?_
   refine Ec rfl ?_
   apply k57
   refine As (t:=(a61.name).toList == (a38.name).toList) rfl (fun b66=>?_) (fun b66=>?_)
   ·have q66:=Jr b66
    refine w_q rfl rfl fun K67 k67=>?_
    refine l_v (Cp (v:=(iV (5))) rfl) ?_
    refine l_k k67 ?_
    refine Aj (Asf (Asi l2 l41)) ?_
    refine Aq ?_
    refine hret _ _ _ ⟨rfl,rfl,Eq.trans (b:=(iV (5))) rfl ?_⟩
    have hi:Cl i (Mk m a38.name) = some k:=Fh p52_1 (by omega) (by simp [Mk,ha61,b8,b15,b22,b32,b46,b49,b55,b66,q8,q15,q22,q32,q55,q66])
    have hf:fieldAt m i = 5:=by simp [fieldAt,ha38,hi,b8,b15,b22,b32,b46,b49,b55,b66,q8,q15,q22,q32,q55,q66]
    have hF:Ew m = 5:=by rw [Ew,if_neg (by omega),Db p26_1 (by omega) hf (by omega)]
    rw [Cf,Gr q8,Gr q15,hF,Ry (by omega)]
   have q66:=Jq b66
   refine Al ?_
   apply k56
   refine Ag rfl rfl ?_
   refine l_v (Ah (v:=(iV ((k:Int)))) h52_7) ?_
   refine l_v (Br rfl rfl (z:=(((k + 1):Nat):Int)) (Bo (by first | rfl | omega | (push_cast; rfl)) (by omega) (by omega))) ?_
   refine l_v (Cp (v:=(iV ((((k + 1):Nat):Int)))) rfl) ?_
   apply Ac
   refine ⟨_,?_,((k + 1)),rfl,rfl,rfl,rfl,h52_1,h52_5,h52_6,rfl,(by omega),(Eg p52_1 (by simp [Mk,ha61,b8,b15,b22,b32,b46,b49,b55,b66,q8,q15,q22,q32,q55,q66])),trivial⟩
   omega
  have q55:=of_decide_eq_false b55
  refine Bx ?_
  apply k50
  refine Asb rfl rfl fun K68 K69 k68 k69=>?_
  refine Arw (Ay FField.f_house Tryz.underlying47 rfl rfl ty3 (by decide) h52_6 r41) fun v70 r70=>?_
  have ⟨g71a,g71b⟩:=At.rng r70
  refine l_v (Bc ty3 rfl r70) ?_
  refine Arw (Ay Market.f_houses Tryz.underlying36 rfl rfl Hw (by decide) h52_1 r2) fun v72 r72=>?_
  refine Arw (Ax Hw rfl r72) fun v73 r73=>?_
  have g74:=Val.len r73
  refine l_v (Ci (el:=9) Tryz.underlying32 rfl r73) ?_
  refine l_v (Ou rfl rfl (z:=(((m.houses.length:Nat):Int) - 1)) (Bo (by first | rfl | omega | (push_cast; rfl)) (by omega) (by omega))) ?_
  refine Arv (Bm (L2n) Tryz.func52 rfl rfl ⟨rfl,rfl,rfl,trivial⟩ ?_)
  refine l_v (Iy rfl) ?_
  refine l_k k69 ?_
  refine As (t:=!(inR a38.house 0 ((((m.houses.length:Nat):Int) - 1)))) rfl (fun b75=>?_) (fun b75=>?_)
  ·have b76:=not_eq_t b75
   have q76:=Tr.1 b76
   refine w_q rfl rfl fun K77 k77=>?_
   refine l_v (Cp (v:=(iV (6))) rfl) ?_
   refine l_k k77 ?_
   refine Aj (Asf (Asi l2 l41)) ?_
   refine Aq ?_
   refine hret _ _ _ ⟨rfl,rfl,Eq.trans (b:=(iV (6))) rfl ?_⟩
   have hi:Cl i (Mk m a38.name) = none:=Ep fun j hj=>p52_1 j (by omega)
   have hf:fieldAt m i = 6:=by simp [fieldAt,ha38,hi,b8,b15,b22,b32,b46,b49,b55,b75,b76,q8,q15,q22,q32,q55,q76]
   have hF:Ew m = 6:=by rw [Ew,if_neg (by omega),Db p26_1 (by omega) hf (by omega)]
   rw [Cf,Gr q8,Gr q15,hF,Ry (by omega)]
  have b78:=not_eq_f b75
  have q78:=Fz.1 b78
  refine Al ?_
  apply k68
  refine Asb rfl rfl fun K79 K80 k79 k80=>?_
  refine Arw (Ay FField.f_grows Tryz.underlying47 rfl rfl Mx (by decide) h52_6 r41) fun v81 r81=>?_
  refine Arw (Ax Mx rfl r81) fun v82 r82=>?_
  refine Arv (Bm (L2o r82) Tryz.func33 rfl rfl ⟨rfl,rfl,rfl,trivial⟩ ?_)
  refine l_v (Iy rfl) ?_
  refine l_k k80 ?_
  refine As (t:=!(Ef a38.grows 0 1000000)) rfl (fun b83=>?_) (fun b83=>?_)
  ·have b84:=not_eq_t b83
   refine w_q rfl rfl fun K85 k85=>?_
   refine l_v (Cp (v:=(iV (1))) rfl) ?_
   refine l_k k85 ?_
   refine Aj (Asf (Asi l2 l41)) ?_
   refine Aq ?_
   refine hret _ _ _ ⟨rfl,rfl,Eq.trans (b:=(iV (1))) rfl ?_⟩
   have hi:Cl i (Mk m a38.name) = none:=Ep fun j hj=>p52_1 j (by omega)
   have hf:fieldAt m i = 1:=by simp [fieldAt,ha38,hi,b8,b15,b22,b32,b46,b49,b55,b75,b78,b83,b84,q8,q15,q22,q32,q55,q78]
   have hF:Ew m = 1:=by rw [Ew,if_neg (by omega),Db p26_1 (by omega) hf (by omega)]
   rw [Cf,Gr q8,Gr q15,hF,Ry (by omega)]
  have b86:=not_eq_f b83
  refine Al ?_
  apply k79
  refine w_q rfl rfl fun K87 k87=>?_
  refine Arw (Ay FField.f_marks Tryz.underlying47 rfl rfl Uo (by decide) h52_6 r41) fun v88 r88=>?_
  refine Arw (Ax Uo rfl r88) fun v89 r89=>?_
  refine Arw (Ay Market.f_marks Tryz.underlying36 rfl rfl Hw (by decide) h52_1 r2) fun v90 r90=>?_
  refine Arw (Ax Hw rfl r90) fun v91 r91=>?_
  have g92:=Val.len r91
  refine l_v (Ci (el:=9) Tryz.underlying32 rfl r91) ?_
  refine Arv (Bm (L4i r89) Tryz.func53 rfl rfl ⟨rfl,rfl,trivial⟩ ?_)
  refine l_v (Cp (v:=(iV (Fm a38.marks (((m.marks.length:Nat):Int))))) rfl) ?_
  refine Arx rfl rfl k87 fun K93 k93=>?_
  refine l_v (Ah (v:=(iV (Fm a38.marks (((m.marks.length:Nat):Int))))) rfl) ?_
  refine l_v (Dg rfl rfl) ?_
  refine l_k k93 ?_
  refine As (t:=Fm a38.marks (((m.marks.length:Nat):Int)) != 0) rfl (fun b94=>?_) (fun b94=>?_)
  ·have q94:=Ls b94
   refine w_q rfl rfl fun K95 k95=>?_
   refine l_v (Ah (v:=(iV (Fm a38.marks (((m.marks.length:Nat):Int))))) rfl) ?_
   refine l_v (Cp (v:=(iV (Fm a38.marks (((m.marks.length:Nat):Int))))) rfl) ?_
   refine l_k k95 ?_
   refine Aj (Asf (Asi l2 l41)) ?_
   refine Aq ?_
   refine hret _ _ _ ⟨rfl,rfl,Eq.trans (b:=(iV (Fm a38.marks (((m.marks.length:Nat):Int))))) rfl ?_⟩
   have hi:Cl i (Mk m a38.name) = none:=Ep fun j hj=>p52_1 j (by omega)
   have hf:fieldAt m i = Fm a38.marks (((m.marks.length:Nat):Int)):=by simp [fieldAt,ha38,hi,b8,b15,b22,b32,b46,b49,b55,b75,b78,b83,b86,b94,q8,q15,q22,q32,q55,q78,q94]
   have hF:Ew m = Fm a38.marks (((m.marks.length:Nat):Int)):=by rw [Ew,if_neg (by omega),Db p26_1 (by omega) hf q94]
   rw [Cf,Gr q8,Gr q15,hF,Ry q94]
  have q94:=Jh b94
  refine Al ?_
  apply k33
  refine Ag rfl rfl ?_
  refine l_v (Ah (v:=(iV ((i:Int)))) h52_5) ?_
  refine l_v (Br rfl rfl (z:=(((i + 1):Nat):Int)) (Bo (by first | rfl | omega | (push_cast; rfl)) (by omega) (by omega))) ?_
  refine l_v (Cp (v:=(iV ((((i + 1):Nat):Int)))) rfl) ?_
  refine Bj (Asf l41) ?_
  apply Ac
  refine ⟨_,?_,((i + 1)),rfl,rfl,rfl,rfl,h52_1,rfl,(by omega),(Eg p26_1 (by
  have hi:Cl i (Mk m a38.name) = none:=Ep fun j hj=>p52_1 j (by omega)
  simp [fieldAt,ha38,hi,b8,b15,b22,b32,b46,b49,b55,b75,b78,b83,b86,b94,q8,q15,q22,q32,q55,q78,q94])),trivial⟩
  omega
 have q32:=of_decide_eq_false b32
 refine Bx ?_
 apply k24
 refine Asb rfl rfl fun K96 K97 k96 k97=>?_
 refine Arw (Ay Market.f_sales Tryz.underlying36 rfl rfl Qn (by decide) h26_1 r2) fun v98 r98=>?_
 refine Arw (Ax Qn rfl r98) fun v99 r99=>?_
 have g100:=Val.len r99
 refine l_v (Ci (el:=146) Tryz.underlying34 rfl r99) ?_
 refine l_v (Gl rfl rfl) ?_
 refine l_k k97 ?_
 refine As (t:=decide (((m.sales.length:Nat):Int) > 8)) rfl (fun b101=>?_) (fun b101=>?_)
 ·have q101:=of_decide_eq_true b101
  refine w_q rfl rfl fun K102 k102=>?_
  refine l_v (Cp (v:=(iV (2))) rfl) ?_
  refine l_k k102 ?_
  refine Aj (Asf l2) ?_
  refine Aq ?_
  refine hret _ _ _ ⟨rfl,rfl,Eq.trans (b:=(iV (2))) rfl ?_⟩
  have hF:Ew m = 0:=by rw [Ew,if_neg (by omega),Fb fun j hj=>p26_1 j (by omega)]
  rw [Cf,Gr q8,Gr q15,Gr hF,Jc,if_pos (by omega)]
 have q101:=of_decide_eq_false b101
 refine Al ?_
 apply k96
 refine Asb rfl rfl fun K103 K104 k103 k104=>?_
 refine l_v (Cp (v:=(iV (0))) rfl) ?_
 refine l_k k104 ?_
 refine Ao ?_
 refine Cc (fun mm ee dd ρ' σ'=>∃ (s:Nat),(m.sales.length - s) = mm∧[] = dd∧ρ2 = ρ'∧σ = σ'∧ee 1 = (.pointer (some ⟨k2,0,none⟩))∧ee 9 = (iV ((s:Int)))∧(s ≤ m.sales.length)∧(∀ j,j < s→Jb m j = 0)∧True) (m:=_) ⟨0,rfl,rfl,rfl,rfl,h26_1,rfl,(Nat.zero_le _),(fun j h=>absurd h (Nat.not_lt_zero _)),trivial⟩ ?_
 rintro m105 e105 _ _ _ ⟨s,rfl,rfl,rfl,rfl,h105_1,h105_9,p105_0,p105_1,_⟩
 refine Asb rfl rfl fun K106 K107 k106 k107=>?_
 refine l_v (Ah (v:=(iV ((s:Int)))) h105_9) ?_
 refine Arw (Ay Market.f_sales Tryz.underlying36 rfl rfl Qn (by decide) h105_1 r2) fun v108 r108=>?_
 refine Arw (Ax Qn rfl r108) fun v109 r109=>?_
 have g110:=Val.len r109
 refine l_v (Ci (el:=146) Tryz.underlying34 rfl r109) ?_
 refine l_v (Da rfl rfl) ?_
 refine l_k k107 ?_
 refine As (t:=decide ((s:Int) < ((m.sales.length:Nat):Int))) rfl (fun b111=>?_) (fun b111=>?_)
 ·have q111:=of_decide_eq_true b111
  refine Al ?_
  apply k106
  refine Ai fun K112 k112=>?_
  refine Ao ?_
  refine w_q rfl rfl fun K113 k113=>?_
  refine Arw (Ay Market.f_sales Tryz.underlying36 rfl rfl Qn (by decide) h105_1 r2) fun v114 r114=>?_
  refine Arw (Ax Qn rfl r114) fun v115 r115=>?_
  refine l_v (Ah (v:=(iV ((s:Int)))) h105_9) ?_
  obtain ⟨a117,ha117⟩:=Ed (xs:=m.sales) (i:=s) (by omega)
  refine Arw (Ch s Tryz.underlying34 Up rfl r115 (q:=(s:Int)) rfl rfl ha117) fun v116 r116=>?_
  refine Arw (Ax Up rfl r116) fun v118 r118=>?_
  refine Arv (Ct Agb fun k119=>?_)
  refine Cx rfl (Dv (v:=v118) (a:=a117) (c:=Akd) Up rfl rfl r118 rfl ?_)
  refine Bb (a:=a117) r118 fun ρ120 l120 r120=>?_
  replace r2:=At.mono l120 r2
  refine Ary rfl rfl k113 fun K121 K122 k121 k122=>?_
  refine Arw (Ay Sale.f_grams Tryz.underlying146 rfl rfl ty3 (by decide) rfl r120) fun v123 r123=>?_
  have ⟨g124a,g124b⟩:=At.rng r123
  refine l_v (Bc ty3 rfl r123) ?_
  refine Arv (Bm (L2n) Tryz.func52 rfl rfl ⟨rfl,rfl,rfl,trivial⟩ ?_)
  refine l_v (Iy rfl) ?_
  refine l_k k122 ?_
  refine As (t:=!(inR a117.grams 0 1000000)) rfl (fun b125=>?_) (fun b125=>?_)
  ·have b126:=not_eq_t b125
   have q126:=Tr.1 b126
   refine w_q rfl rfl fun K127 k127=>?_
   refine l_v (Cp (v:=(iV (1))) rfl) ?_
   refine l_k k127 ?_
   refine Aj (Asf (Asi l2 l120)) ?_
   refine Aq ?_
   refine hret _ _ _ ⟨rfl,rfl,Eq.trans (b:=(iV (1))) rfl ?_⟩
   have hF:Ew m = 0:=by rw [Ew,if_neg (by omega),Fb fun j hj=>p26_1 j (by omega)]
   have hf:Jb m s = 1:=by simp [Jb,ha117,b8,b15,b22,b32,b101,b111,b125,b126,q8,q15,q22,q32,q101,q111,q126]
   rw [Cf,Gr q8,Gr q15,Gr hF,Jc,if_neg (by omega),Db p105_1 (by omega) hf (by omega)]
  have b128:=not_eq_f b125
  have q128:=Fz.1 b128
  refine Al ?_
  apply k121
  refine Asb rfl rfl fun K129 K130 k129 k130=>?_
  refine Arw (Ay Sale.f_sellers Tryz.underlying146 rfl rfl Vh (by decide) rfl r120) fun v131 r131=>?_
  refine Arw (Ax Vh rfl r131) fun v132 r132=>?_
  have g133:=Val.len r132
  refine l_v (Ci (el:=3) Tryz.underlying49 rfl r132) ?_
  refine l_v (Ek rfl rfl) ?_
  refine l_k k130 ?_
  refine As (t:=((a117.sellers.length:Nat):Int) == 0) rfl (fun b134=>?_) (fun b134=>?_)
  ·have q134:=Jr b134
   refine w_q rfl rfl fun K135 k135=>?_
   refine l_v (Cp (v:=(iV (2))) rfl) ?_
   refine l_k k135 ?_
   refine Aj (Asf (Asi l2 l120)) ?_
   refine Aq ?_
   refine hret _ _ _ ⟨rfl,rfl,Eq.trans (b:=(iV (2))) rfl ?_⟩
   have hF:Ew m = 0:=by rw [Ew,if_neg (by omega),Fb fun j hj=>p26_1 j (by omega)]
   have hf:Jb m s = 2:=by simp [Jb,ha117,b8,b15,b22,b32,b101,b111,b125,b128,b134,q8,q15,q22,q32,q101,q111,q128,q134]
   rw [Cf,Gr q8,Gr q15,Gr hF,Jc,if_neg (by omega),Db p105_1 (by omega) hf (by omega)]
  have q134:=Jq b134
  refine Al ?_
  apply k129
  refine w_q rfl rfl fun K136 k136=>?_
  refine l_v (Cp (v:=(iV (0))) rfl) ?_
  refine l_k k136 ?_
  refine Ao ?_
  refine Cc (fun mm ee dd ρ' σ'=>∃ (q:Nat),(a117.sellers.length - q) = mm∧[] = dd∧ρ120 = ρ'∧σ = σ'∧ee 1 = (.pointer (some ⟨k2,0,none⟩))∧ee 9 = (iV ((s:Int)))∧ee 10 = (.pointer (some ⟨k119,0,none⟩))∧ee 11 = (iV ((q:Int)))∧(q ≤ a117.sellers.length)∧(∀ j,j < q→Gt m a117 j = 0)∧True) (m:=_) ⟨0,rfl,rfl,rfl,rfl,h105_1,h105_9,rfl,rfl,(Nat.zero_le _),(fun j h=>absurd h (Nat.not_lt_zero _)),trivial⟩ ?_
  rintro m137 e137 _ _ _ ⟨q,rfl,rfl,rfl,rfl,h137_1,h137_9,h137_10,h137_11,p137_0,p137_1,_⟩
  refine Asb rfl rfl fun K138 K139 k138 k139=>?_
  refine l_v (Ah (v:=(iV ((q:Int)))) h137_11) ?_
  refine Arw (Ay Sale.f_sellers Tryz.underlying146 rfl rfl Vh (by decide) h137_10 r120) fun v140 r140=>?_
  refine Arw (Ax Vh rfl r140) fun v141 r141=>?_
  have g142:=Val.len r141
  refine l_v (Ci (el:=3) Tryz.underlying49 rfl r141) ?_
  refine l_v (Da rfl rfl) ?_
  refine l_k k139 ?_
  refine As (t:=decide ((q:Int) < ((a117.sellers.length:Nat):Int))) rfl (fun b143=>?_) (fun b143=>?_)
  ·have q143:=of_decide_eq_true b143
   refine Al ?_
   apply k138
   refine Ai fun K144 k144=>?_
   refine Ao ?_
   refine Ai fun K145 k145=>?_
   refine Ai fun K146 k146=>?_
   refine Dc [0,1,2,3,4,5,6,7,8,9,10] (by kernel_rfl) rfl rfl ?_
   refine Cd (i:=0) [o1,o0,o0,o0,o0,o0,o0,o0,o0,o0,o0] rfl (by kernel_rfl) rfl Ash rfl (Ay Sale.f_sellers Tryz.underlying146 rfl rfl Vh (by decide) h137_10 r120) fun v147 r147=>?_
   refine Cd (i:=1) [o1,o1,o0,o0,o0,o0,o0,o0,o0,o0,o0] rfl (by kernel_rfl) rfl Ash rfl (Ax Vh rfl r147) fun v148 r148=>?_
   refine Bd (i:=2) [o1,o1,o1,o0,o0,o0,o0,o0,o0,o0,o0] rfl (by kernel_rfl) rfl Ash rfl (Ah (v:=(iV ((q:Int)))) h137_11) ?_
   obtain ⟨a150,ha150⟩:=Ed (xs:=a117.sellers) (i:=q) (by omega)
   refine Cd (i:=3) [o1,o1,o1,o1,o0,o0,o0,o0,o0,o0,o0] rfl (by kernel_rfl) rfl Ash rfl (Ch q Tryz.underlying49 ty3 rfl r148 (q:=(q:Int)) rfl rfl ha150) fun v149 r149=>?_
   have ⟨g151a,g151b⟩:=At.rng r149
   refine Bd (i:=4) [o1,o1,o1,o1,o1,o0,o0,o0,o0,o0,o0] rfl (by kernel_rfl) rfl Ash rfl (Bc ty3 rfl r149) ?_
   refine Hk (i:=5) Aop rfl (by kernel_rfl) rfl Ash rfl (Ay Market.f_houses Tryz.underlying36 rfl rfl Hw (by decide) h137_1 r2) fun v152 r152=>?_
   refine Hk (i:=6) zZ2 rfl (by kernel_rfl) rfl Ash rfl (Ax Hw rfl r152) fun v153 r153=>?_
   have g154:=Val.len r153
   refine Bg (i:=7) zZ3 rfl (by kernel_rfl) rfl Ash rfl (Ci (el:=9) Tryz.underlying32 rfl r153) ?_
   refine Bg (i:=8) zZ4 rfl (by kernel_rfl) rfl Ash rfl (Ou rfl rfl (z:=(((m.houses.length:Nat):Int) - 1)) (Bo (by first | rfl | omega | (push_cast; rfl)) (by omega) (by omega))) ?_
   refine Dj (i:=9) zZ5 rfl (by kernel_rfl) rfl rfl (Bm (L2n) Tryz.func52 rfl rfl ⟨rfl,rfl,rfl,trivial⟩ ⟨Ash,?_⟩)
   refine Bg (i:=10) zZ6 rfl (by kernel_rfl) rfl Ash rfl (Iy rfl) ?_
   refine Ec rfl ?_
   apply k146
   refine As (t:=!(inR a150 0 ((((m.houses.length:Nat):Int) - 1)))) rfl (fun b155=>?_) (fun b155=>?_)
   ·have b156:=not_eq_t b155
    have q156:=Tr.1 b156
    refine w_q rfl rfl fun K157 k157=>?_
    refine l_v (Cp (v:=(iV (6))) rfl) ?_
    refine l_k k157 ?_
    refine Aj (Asf (Asi l2 l120)) ?_
    refine Aq ?_
    refine hret _ _ _ ⟨rfl,rfl,Eq.trans (b:=(iV (6))) rfl ?_⟩
    have hF:Ew m = 0:=by rw [Ew,if_neg (by omega),Fb fun j hj=>p26_1 j (by omega)]
    have hq:Gt m a117 q = 6:=by
     simp [Gt,ha150,b8,b15,b22,b32,b101,b111,b125,b128,b134,b143,b155,b156]
    have hf:Jb m s = 6:=by simp only [Jb,ha117,b8,b15,b22,b32,b101,b111,b125,b128,b134,b143,b155,b156,if_true]; rw [if_neg (by omega),Db p137_1 (by omega) hq (by omega)]
    rw [Cf,Gr q8,Gr q15,Gr hF,Jc,if_neg (by omega),Db p105_1 (by omega) hf (by omega)]
   have b158:=not_eq_f b155
   have q158:=Fz.1 b158
   refine Al ?_
   apply k145
   refine Ai fun K159 k159=>?_
   refine Dc [0,1,2,3,4,5,6,7,8,9,10,11,12,13,14,15] (by kernel_rfl) rfl rfl ?_
   refine Bg (i:=0) Aqz rfl (by kernel_rfl) rfl Ash rfl (Ah (v:=(iV ((q:Int)))) h137_11) ?_
   refine Bg (i:=1) Ara rfl (by kernel_rfl) rfl Ash rfl (Gl rfl rfl) ?_
   refine Bg (i:=2) Arb rfl (by kernel_rfl) rfl Ash rfl (Ah (v:=(.bool (decide ((q:Int) > 0)))) rfl) ?_
   refine Akk (decide ((q:Int) > 0)) (fun b160=>?_) (fun b160=>?_)
   ·have q160:=of_decide_eq_true b160
    refine Cd (i:=3) Arc rfl (by kernel_rfl) rfl Ash (Ar rfl rfl rfl b160) (Ay Sale.f_sellers Tryz.underlying146 rfl rfl Vh (by decide) h137_10 r120) fun v161 r161=>?_
    refine Cd (i:=4) Ard rfl (by kernel_rfl) rfl Ash (Ar rfl rfl rfl b160) (Ax Vh rfl r161) fun v162 r162=>?_
    refine Bd (i:=5) Are rfl (by kernel_rfl) rfl Ash (Ar rfl rfl rfl b160) (Ah (v:=(iV ((q:Int)))) h137_11) ?_
    refine Cd (i:=6) Arf rfl (by kernel_rfl) rfl Ash (Ar rfl rfl rfl b160) (Ch q Tryz.underlying49 ty3 rfl r162 (q:=(q:Int)) rfl rfl ha150) fun v163 r163=>?_
    have ⟨g164a,g164b⟩:=At.rng r163
    refine Bd (i:=7) Anr rfl (by kernel_rfl) rfl Ash (Ar rfl rfl rfl b160) (Bc ty3 rfl r163) ?_
    refine Cd (i:=8) Ans rfl (by kernel_rfl) rfl Ash (Ar rfl rfl rfl b160) (Ay Sale.f_sellers Tryz.underlying146 rfl rfl Vh (by decide) h137_10 r120) fun v165 r165=>?_
    refine Cd (i:=9) Ant rfl (by kernel_rfl) rfl Ash (Ar rfl rfl rfl b160) (Ax Vh rfl r165) fun v166 r166=>?_
    refine Bg (i:=10) [o1,o1,o1,o1,o1,o1,o1,o1,o1,o1,o1,o0,o0,o0,o0,o0] rfl (by kernel_rfl) rfl Ash (Ar rfl rfl rfl b160) (Ah (v:=(iV ((q:Int)))) h137_11) ?_
    refine Bg (i:=11) [o1,o1,o1,o1,o1,o1,o1,o1,o1,o1,o1,o1,o0,o0,o0,o0] rfl (by kernel_rfl) rfl Ash (Ar rfl rfl rfl b160) (Ou rfl rfl (z:=((q:Int) - 1)) (Bo (by first | rfl | omega | (push_cast; rfl)) (by omega) (by omega))) ?_
    obtain ⟨a168,ha168⟩:=Ed (xs:=a117.sellers) (i:=(((q:Int) - 1)).toNat) (by omega)
    refine Hk (i:=12) Anu rfl (by kernel_rfl) rfl Ash (Ar rfl rfl rfl b160) (Ch ((((q:Int) - 1)).toNat) Tryz.underlying49 ty3 rfl r166 (q:=((q:Int) - 1)) rfl (by omega) ha168) fun v167 r167=>?_
    have ⟨g169a,g169b⟩:=At.rng r167
    refine Bg (i:=13) Anv rfl (by kernel_rfl) rfl Ash (Ar rfl rfl rfl b160) (Bc ty3 rfl r167) ?_
    refine Bg (i:=14) Anw rfl (by kernel_rfl) rfl Ash (Ar rfl rfl rfl b160) (Uz rfl rfl) ?_
    refine Bg (i:=15) Anx rfl (by kernel_rfl) rfl Ash rfl (Bt rfl b160 (v:=(.bool (decide (a150 ≤ a168)))) rfl) ?_
    refine Ec rfl ?_
    apply k159
    refine As (t:=decide (a150 ≤ a168)) rfl (fun b170=>?_) (fun b170=>?_)
    ·have q170:=of_decide_eq_true b170
     refine w_q rfl rfl fun K171 k171=>?_
     refine l_v (Cp (v:=(iV (7))) rfl) ?_
     refine l_k k171 ?_
     refine Aj (Asf (Asi l2 l120)) ?_
     refine Aq ?_
     refine hret _ _ _ ⟨rfl,rfl,Eq.trans (b:=(iV (7))) rfl ?_⟩
     have hF:Ew m = 0:=by rw [Ew,if_neg (by omega),Fb fun j hj=>p26_1 j (by omega)]
     have hq:Gt m a117 q = 7:=by
      have hp:a117.sellers[q - 1]? = some a168:=by rw [← ha168]; congr 1; omega
      have h0:0 < q:=by omega
      simp only [Gt,ha150,if_pos h0,hp,b8,b15,b22,b32,b101,b111,b125,b128,b134,b143,b155,b158,b160,b170,if_true]; first | rw [if_pos (by omega)] | rw [if_neg (by omega)]
     have hf:Jb m s = 7:=by simp only [Jb,ha117,b8,b15,b22,b32,b101,b111,b125,b128,b134,b143,b155,b158,b160,b170,if_true]; rw [if_neg (by omega),Db p137_1 (by omega) hq (by omega)]
     rw [Cf,Gr q8,Gr q15,Gr hF,Jc,if_neg (by omega),Db p105_1 (by omega) hf (by omega)]
    have q170:=of_decide_eq_false b170
    refine Al ?_
    apply k144
    refine Ag rfl rfl ?_
    refine l_v (Ah (v:=(iV ((q:Int)))) h137_11) ?_
    refine l_v (Br rfl rfl (z:=(((q + 1):Nat):Int)) (Bo (by first | rfl | omega | (push_cast; rfl)) (by omega) (by omega))) ?_
    refine l_v (Cp (v:=(iV ((((q + 1):Nat):Int)))) rfl) ?_
    apply Ac
    refine ⟨_,?_,((q + 1)),rfl,rfl,rfl,rfl,h137_1,h137_9,h137_10,rfl,(by omega),(Eg p137_1 (by
 have hp:a117.sellers[q - 1]? = some a168:=by rw [← ha168]; congr 1; omega
 have h0:0 < q:=by omega
 simp only [Gt,ha150,if_pos h0,hp,b8,b15,b22,b32,b101,b111,b125,b128,b134,b143,b155,b158,b160,b170,if_true]; first | rw [if_pos (by omega)] | rw [if_neg (by omega)])),trivial⟩
    omega
   have q160:=of_decide_eq_false b160
   refine Sw (i:=3) Arc rfl (by kernel_rfl) rfl Ash (Bl rfl rfl rfl b160) ?_
   refine Sw (i:=4) Ard rfl (by kernel_rfl) rfl Ash (Bl rfl rfl rfl b160) ?_
   refine Sw (i:=5) Are rfl (by kernel_rfl) rfl Ash (Bl rfl rfl rfl b160) ?_
   refine Sw (i:=6) Arf rfl (by kernel_rfl) rfl Ash (Bl rfl rfl rfl b160) ?_
   refine Sw (i:=7) Anr rfl (by kernel_rfl) rfl Ash (Bl rfl rfl rfl b160) ?_
   refine Sw (i:=8) Ans rfl (by kernel_rfl) rfl Ash (Bl rfl rfl rfl b160) ?_
   refine Sw (i:=9) Ant rfl (by kernel_rfl) rfl Ash (Bl rfl rfl rfl b160) ?_
   refine Wv (i:=10) [o1,o1,o1,o1,o1,o1,o1,o1,o1,o1,o1,o0,o0,o0,o0,o0] rfl (by kernel_rfl) rfl Ash (Bl rfl rfl rfl b160) ?_
   refine Wv (i:=11) [o1,o1,o1,o1,o1,o1,o1,o1,o1,o1,o1,o1,o0,o0,o0,o0] rfl (by kernel_rfl) rfl Ash (Bl rfl rfl rfl b160) ?_
   refine Wv (i:=12) Anu rfl (by kernel_rfl) rfl Ash (Bl rfl rfl rfl b160) ?_
   refine Wv (i:=13) Anv rfl (by kernel_rfl) rfl Ash (Bl rfl rfl rfl b160) ?_
   refine Wv (i:=14) Anw rfl (by kernel_rfl) rfl Ash (Bl rfl rfl rfl b160) ?_
   refine Bg (i:=15) Anx rfl (by kernel_rfl) rfl Ash rfl (Bn rfl b160 (v:=(.bool (false))) rfl) ?_
   refine Ec rfl ?_
   apply k159
   refine Cg rfl rfl ?_
   refine Al ?_
   apply k144
   refine Ag rfl rfl ?_
   refine l_v (Ah (v:=(iV ((q:Int)))) h137_11) ?_
   refine l_v (Br rfl rfl (z:=(((q + 1):Nat):Int)) (Bo (by first | rfl | omega | (push_cast; rfl)) (by omega) (by omega))) ?_
   refine l_v (Cp (v:=(iV ((((q + 1):Nat):Int)))) rfl) ?_
   apply Ac
   refine ⟨_,?_,((q + 1)),rfl,rfl,rfl,rfl,h137_1,h137_9,h137_10,rfl,(by omega),(Eg p137_1 (by
 have h0:¬ 0 < q:=by omega
 simp [Gt,ha150,if_neg h0,b8,b15,b22,b32,b101,b111,b125,b128,b134,b143,b155,b158,b160])),trivial⟩
   omega
  have q143:=of_decide_eq_false b143
  refine Bx ?_
  apply k112
  refine Ag rfl rfl ?_
  refine l_v (Ah (v:=(iV ((s:Int)))) h137_9) ?_
  refine l_v (Br rfl rfl (z:=(((s + 1):Nat):Int)) (Bo (by first | rfl | omega | (push_cast; rfl)) (by omega) (by omega))) ?_
  refine l_v (Cp (v:=(iV ((((s + 1):Nat):Int)))) rfl) ?_
  refine Bj (Asf l120) ?_
  apply Ac
  refine ⟨_,?_,((s + 1)),rfl,rfl,rfl,rfl,h137_1,rfl,(by omega),(Eg p105_1 (by
  simp only [Jb,ha117,b8,b15,b22,b32,b101,b111,b125,b128,b134,b143,if_true]; rw [if_neg (by omega),Fb fun j hj=>p137_1 j (by omega)])),trivial⟩
  omega
 have q111:=of_decide_eq_false b111
 refine Bx ?_
 apply k103
 refine w_q rfl rfl fun K172 k172=>?_
 refine l_v (Cp (v:=(iV (0))) rfl) ?_
 refine l_k k172 ?_
 refine Aj (Asf l2) ?_
 refine Aq ?_
 refine hret _ _ _ ⟨rfl,rfl,Eq.trans (b:=(iV (0))) rfl ?_⟩
 have hF:Ew m = 0:=by rw [Ew,if_neg (by omega),Fb fun j hj=>p26_1 j (by omega)]
 rw [Cf,Gr q8,Gr q15,Gr hF,Jc,if_neg (by omega),Fb fun j hj=>p105_1 j (by omega)]
end Go.Proofs.YtphgjjmlnkgghaaGreatDoor

namespace Go.Proofs.YtphgjjmlnkgghaaGreatDoor
open Go
theorem L4s (a b:List Nat):Cr a b∨a = b∨Cr b a:=by
  rcases Nat.lt_trichotomy a.length b.length with h | h | h
  · exact .inl (.inl h)
  · by_cases h1:a < b
    · exact .inl (.inr ⟨h,h1⟩)
    · by_cases h2:b < a
      · exact .inr (.inr (.inr ⟨h.symm,h2⟩))
      · exact .inr (.inl (List.le_antisymm (List.not_lt.1 h2) (List.not_lt.1 h1)))
  · exact .inr (.inr (.inl h))
theorem L4h {f:List Nat→Int} (a b:List Nat):Bu f a b∨a = b∨Bu f b a:=by
  rcases Int.lt_trichotomy (f b) (f a) with h | h | h
  · exact .inl (.inl h)
  · rcases L4s a b with h2 | h2 | h2
    · exact .inl (.inr ⟨h.symm,h2⟩)
    · exact .inr (.inl h2)
    · exact .inr (.inr (.inr ⟨h,h2⟩))
  · exact .inr (.inr (.inl h))
theorem IsBest.congr {f:List Nat→Int} {L L':List Nat→Prop} {r:List Nat} (h:IsBest f L r) (hl:∀ x,L x↔L' x):IsBest f L' r:=⟨(hl r).1 h.1,fun x hx=>h.2 x ((hl x).2 hx)⟩
theorem L8n {f:List Nat→Int} (xs:List (List Nat)) (r:List Nat):IsBest f (fun x=>x ∈ r :: xs) (Sz f xs r):=by
  induction xs generalizing r with
  | nil=>exact ⟨by simp [Sz],fun x hx=>.inl (by simpa [Sz] using hx)⟩
  | cons y xs ih =>
    have e1:Sz f (y :: xs) r = Sz f xs (if Bu f y r then y else r):=rfl
    rw [e1]
    obtain ⟨h1,h2⟩:=ih (if Bu f y r then y else r)
    refine ⟨?_,fun x hx=>?_⟩
    · rcases List.mem_cons.1 h1 with e | e
      · rw [e]; split <;> simp
      · exact List.mem_cons_of_mem _ (List.mem_cons_of_mem _ e)
    · have hle:∀ z,(z = y∨z = r)→z = Sz f xs (if Bu f y r then y else r)∨Bu f (Sz f xs (if Bu f y r then y else r)) z:=fun z hz=>by
        have h3:(if Bu f y r then y else r) = z∨Bu f (if Bu f y r then y else r) z:=by
          split
          · rename_i hb
            rcases hz with rfl | rfl
            · exact .inl rfl
            · exact .inr hb
          · rename_i hb
            rcases hz with rfl | rfl
            · rcases L4h (f:=f) z r with h | h | h
              · exact absurd h hb
              · exact .inl h.symm
              · exact .inr h
            · exact .inl rfl
        rcases h3 with h3 | h3
        · rw [← h3]; exact h2 _ (List.mem_cons_self ..)
        · rcases h2 _ (List.mem_cons_self ..) with h4 | h4
          · rw [← h4]; exact .inr h3
          · exact .inr (Ww h4 h3)
      rcases List.mem_cons.1 hx with rfl | hx
      · exact hle _ (.inr rfl)
      · rcases List.mem_cons.1 hx with rfl | hx
        · exact hle _ (.inl rfl)
        · exact h2 x (List.mem_cons_of_mem _ hx)
/-- Ascending lists of numbers from one on,below another one. -/
def asc (f b:Nat):List Nat→Prop
  | []=>True
  | i :: l=>f ≤ i∧i < b∧asc (i + 1) b l
theorem L6g:∀ {l:List Nat} {f b:Nat},asc f b l→f ≤ b→l.length ≤ b - f
  | [],_,_,_,_=>by simp
  | i :: l,f,b,⟨h1,h2,h3⟩,_=>by have:=L6g h3 (by omega); simp only [List.length_cons]; omega
/-- The lists that bits tell. -/
theorem L4v {l:List Nat} {f f' b:Nat} (h:asc f b l) (hf:f' ≤ f):asc f' b l:=by
  cases l with
  | nil=>trivial
  | cons i l=>exact ⟨Nat.le_trans hf h.1,h.2⟩
theorem L3e (p:Nat→Bool):∀ (n f:Nat),asc f (f + n) ((List.range' f n).filter p)
  | 0,f=>trivial
  | n + 1,f=>by
    rw [List.range'_succ,List.filter_cons]
    have ih:=L3e p n (f + 1)
    rw [show f + 1 + n = f + (n + 1) by omega] at ih
    split
    · exact ⟨Nat.le_refl _,by omega,ih⟩
    · exact L4v ih (by omega)
theorem L2l {l:List Nat}:∀ {f b:Nat},asc f b l→∀ x ∈ l,f ≤ x∧x < b:=by
  induction l with
  | nil=>intro f b _ x hx; cases hx
  | cons i l ih =>
    intro f b ⟨h1,h2,h3⟩ x hx
    rcases List.mem_cons.1 hx with rfl | hx
    · exact ⟨h1,h2⟩
    · have:=ih h3 x hx; omega
/-- An ascending list is what its own members pick out. -/
theorem L2h:∀ (n f:Nat) (l:List Nat),asc f (f + n) l→(List.range' f n).filter (fun x=>l.contains x) = l
  | 0,f,l,h=>by
    cases l with
    | nil=>rfl
    | cons i l=>exact absurd h.2.1 (by have:=h.1; omega)
  | n + 1,f,l,h=>by
    rw [List.range'_succ]
    cases l with
    | nil=>simp
    | cons i l =>
      obtain ⟨h1,h2,h3⟩:=h
      rw [List.filter_cons]
      by_cases e:i = f
      · subst e
        rw [if_pos (by simp)]
        congr 1
        have ih:=L2h n (i + 1) l (by rw [show i + 1 + n = i + (n + 1) by omega]; exact h3)
        rw [← ih]
        apply List.filter_congr
        intro x hx
        have hx':=List.mem_range'_1.1 hx
        have:x ≠ i:=by omega
        rw [ih]
        simp [this]
      · rw [if_neg (by
          simp only [List.contains_eq_mem,decide_eq_true_eq]
          intro hm
          rcases List.mem_cons.1 hm with rfl | hm
          · exact e rfl
          · have:=L2l h3 f hm; omega)]
        exact L2h n (f + 1) (i :: l) (by rw [show f + 1 + n = f + (n + 1) by omega]; exact ⟨by omega,h2,h3⟩)
theorem L4n {n:Nat} {l:List Nat}:l ∈ Zg n↔asc 0 n l:=by
  unfold Zg
  rw [List.mem_map]
  constructor
  · rintro ⟨s,_,rfl⟩
    have:=L3e (Gw s) n 0
    rw [Nat.zero_add,← List.range_eq_range'] at this
    exact this
  · intro h
    refine ⟨Bf l,List.mem_range.2 (Sl fun a ha=>(L2l h a ha).2),?_⟩
    have h2:=L2h n 0 l (by rw [Nat.zero_add]; exact h)
    rw [← List.range_eq_range'] at h2
    rw [← h2]
    congr 1
    funext x
    rw [h2,Pz,Ng]
theorem L2m (m:Market):IsBest (Bq m) (asc 0 m.sales.length) (Acr m) :=
  (L8n (f:=Bq m) (Zg m.sales.length) []).congr fun x=>by
    rw [List.mem_cons,L4n]
    constructor
    · rintro (rfl | h)
      · trivial
      · exact h
    · exact .inr
end Go.Proofs.YtphgjjmlnkgghaaGreatDoor

namespace Go.Proofs.YtphgjjmlnkgghaaGreatDoor
open Go
def L2a (m:Market) (l:List Int) (i:Nat):Int:=match l[i]? with
  | none=>0
  | some x=>if inR x 0 ((m.sales.length:Int) - 1) then (match (if 0 < i then l[i - 1]? else none) with | some y=>if x ≤ y then 7 else 0 | none=>0) else 6
def L1m (m:Market) (l:List Int):Int:=orF (Cf m) (Hl l.length (L2a m l))
def L3a (l:List Int):List Nat:=l.map Int.toNat
def L2z (m:Market) (l:List Int):Int:=if L1m m l = 0 then Bq m (L3a l) else 0
theorem L9k {l:List Nat} {b:Nat}:∀ {f:Nat},(∀ (i x:Nat),l[i]? = some x→x < b)→(∀ (x:Nat),l[0]? = some x→f ≤ x)→(∀ (i x y:Nat),l[i]? = some x→l[i + 1]? = some y→x < y)→asc f b l:=by
  induction l with
  | nil=>intro f _ _ _; trivial
  | cons a l ih =>
    intro f h1 h2 h3
    refine ⟨h2 a rfl,h1 0 a rfl,ih (fun i x hx=>h1 (i + 1) x (by simpa using hx)) (fun x hx=>h3 0 a x rfl (by simpa using hx)) fun i x y hx hy=>h3 (i + 1) x y (by simpa using hx) (by simpa using hy)⟩
theorem L9d {m:Market} {l:List Int} (h:L1m m l = 0):Cf m = 0∧l = Bw (L3a l)∧asc 0 m.sales.length (L3a l):=by
  unfold L1m at h
  rw [Jx,Fx] at h
  obtain ⟨h1,h2⟩:=h
  have key:∀ (i:Nat) (x:Int),l[i]? = some x→(0 ≤ x∧x < (m.sales.length:Int))∧∀ (y:Int),(if 0 < i then l[i - 1]? else none) = some y→y < x:=fun i x hx=>by
    have h3:=h2 i (List.getElem?_eq_some_iff.1 hx).1
    simp only [L2a,hx] at h3
    split at h3
    · rename_i hin
      have:=Fz.1 hin
      refine ⟨by omega,fun y hy=>?_⟩
      rw [hy] at h3
      simp only at h3
      split at h3
      · cases h3
      · omega
    · cases h3
  refine ⟨h1,?_,L9k (fun i x hx=>?_) (fun x _=>Nat.zero_le _) fun i x y hx hy=>?_⟩
  · unfold Bw L3a
    rw [List.map_map]
    apply List.ext_getElem?
    intro i
    rw [List.getElem?_map]
    cases hx:l[i]? with
    | none=>rfl
    | some x=>have:=(key i x hx).1; simp; omega
  · unfold L3a at hx
    rw [List.getElem?_map] at hx
    obtain ⟨z,hz,rfl⟩:=Option.map_eq_some_iff.1 hx
    have:=(key i z hz).1; omega
  · unfold L3a at hx hy
    rw [List.getElem?_map] at hx hy
    obtain ⟨z,hz,rfl⟩:=Option.map_eq_some_iff.1 hx
    obtain ⟨w,hw,rfl⟩:=Option.map_eq_some_iff.1 hy
    have:=(key (i + 1) w hw).2 z (by simpa using hz)
    have:=(key i z hz).1
    omega
theorem L9l {n:Nat} {l:List Nat} (h:asc 0 n l) (hn:n ≤ 8):(∀ a ∈ l,a < n)∧l.length ≤ 40 :=
  ⟨fun a ha=>(L2l h a ha).2,by have:=L6g h (Nat.zero_le _); omega⟩
theorem M0f {m:Market} {l:List Int} {i:Nat} {x y:Int} (hx:l[i]? = some x) (hin:inR x 0 ((m.sales.length:Int) - 1) = true) (h0:0 < i) (hy:l[i - 1]? = some y) (hle:x ≤ y):L2a m l i = 7:=by
  simp only [L2a,hx,hin,if_true,if_pos h0,hy]; rw [if_pos hle]
theorem L8c {m:Market} {l:List Int} {i:Nat} {x:Int} (hx:l[i]? = some x) (hin:inR x 0 ((m.sales.length:Int) - 1) = true) (h:i = 0∨∃ y,l[i - 1]? = some y∧¬ x ≤ y):L2a m l i = 0:=by
  simp only [L2a,hx,hin,if_true]
  rcases h with rfl | ⟨y,hy,hle⟩
  · simp
  · by_cases h0:0 < i
    · simp only [if_pos h0,hy]; rw [if_neg hle]
    · rw [if_neg h0]
theorem M0e {m:Market} {l:List Int} {i:Nat} {x:Int} (hx:l[i]? = some x) (hin:inR x 0 ((m.sales.length:Int) - 1) = false):L2a m l i = 6:=by
  simp [L2a,hx,hin]
end Go.Proofs.YtphgjjmlnkgghaaGreatDoor

namespace Go.Proofs.YtphgjjmlnkgghaaGreatDoor
open Go
theorem L5i {m:Market}:∀ {l:List Nat} {f:Nat},asc f m.sales.length l→(Ix m l).Sublist (m.sales.drop f)
  | [],f,_=>by simp [Ix]
  | i :: l,f,⟨h1,h2,h3⟩=>by
    have ih:=L5i h3
    have e1:Ix m (i :: l) = m.sales[i] :: Ix m l:=by
      unfold Ix; rw [List.filterMap_cons,List.getElem?_eq_getElem h2]
    rw [e1]
    have h4:(m.sales[i] :: Ix m l).Sublist (m.sales.drop i):=by
      rw [List.drop_eq_getElem_cons h2]
      exact ih.cons_cons _
    refine h4.trans ?_
    rw [show i = f + (i - f) by omega,← List.drop_drop]
    exact List.drop_sublist _ _
theorem L8f {α:Type} {ss l:List α} (h:ss.Sublist l):∀ f (L:List α),L.drop f = l→∃ is,asc f L.length is∧is.filterMap (L[·]?) = ss:=by
  induction h with
  | slnil=>intro f L hL; exact ⟨[],trivial,rfl⟩
  | @cons l1 l2 a h ih =>
    intro f L hL
    have hlt:f < L.length:=by
      rcases Nat.lt_or_ge f L.length with h' | h'
      · exact h'
      · rw [List.drop_eq_nil_of_le h'] at hL; cases hL
    rw [List.drop_eq_getElem_cons hlt] at hL
    injection hL with _ hL
    obtain ⟨is,h1,h2⟩:=ih (f + 1) L hL
    exact ⟨is,L4v h1 (by omega),h2⟩
  | @cons_cons l1 l2 a h ih =>
    intro f L hL
    have hlt:f < L.length:=by
      rcases Nat.lt_or_ge f L.length with h' | h'
      · exact h'
      · rw [List.drop_eq_nil_of_le h'] at hL; cases hL
    rw [List.drop_eq_getElem_cons hlt] at hL
    injection hL with ha hL
    obtain ⟨is,h1,h2⟩:=ih (f + 1) L hL
    refine ⟨f :: is,⟨Nat.le_refl _,hlt,h1⟩,?_⟩
    rw [List.filterMap_cons,List.getElem?_eq_getElem hlt,ha,h2]
/-- No set of sales proves more than the best one,which proves something or nothing. -/
theorem L5u {m:Market} {ss:List Sale} (hs:ss.Sublist m.sales):Ue m ss ≤ Bq m (Acr m):=by
  obtain ⟨is,h1,h2⟩:=L8f hs 0 m.sales rfl
  have e1:Ue m ss = Bq m is:=by unfold Bq Ix; rw [h2]
  rw [e1]
  rcases (L2m m).2 is h1 with h | h | h
  · rw [h]; exact Int.le_refl _
  · omega
  · omega
theorem L7s {m:Market}:∃ ss,ss.Sublist m.sales∧Bq m (Acr m) = Ue m ss:=⟨Ix m (Acr m),by have:=L5i (L2m m).1; simpa using this,rfl⟩
theorem L2g {m:Market} (ok:MarketOk m):0 ≤ Bq m (Acr m):=by
  have:=L5u (m:=m) (ss:=[]) (List.nil_sublist _)
  have e:=Ri ok
  unfold Bq Ix at e
  simp only [List.filterMap_nil] at e
  omega
theorem L5h {m:Market} (h:Cf m = 0) {ss:List Sale} (hs:ss.Sublist m.sales):Cf ⟨m.houses,m.marks,m.fields,ss⟩ = 0:=by
  have ok:=Rg h
  unfold Cf at *
  simp only [Jx] at *
  obtain ⟨h1,h2,h3,h4⟩:=h
  refine ⟨h1,h2,h3,?_⟩
  unfold Jc at *
  have hl:=hs.length_le
  split at h4
  · cases h4
  rename_i hn
  simp only
  rw [if_neg (by omega),Fx]
  rw [Fx] at h4
  intro j hj
  have hx:ss[j]? = some ss[j]:=List.getElem?_eq_getElem hj
  have hm:ss[j] ∈ m.sales:=hs.subset (List.getElem_mem hj)
  obtain ⟨k,hk⟩:=List.getElem?_of_mem hm
  have h5:=h4 k (List.getElem?_eq_some_iff.1 hk).1
  unfold Jb at *
  rw [hk] at h5
  simp only [hx]
  exact h5
theorem L5s {m:Market} (h:Cf m = 0) (set:Nat):(Ahr (rest m set) == 0) = Fj m set:=by
  have h2:Cf (rest m set) = 0:=L5h h List.filter_sublist
  have ok2:=Rg h2
  unfold Ahr
  rw [if_pos h2,Bool.eq_iff_iff,beq_iff_eq,Oz]
  have hn:=L2g ok2
  constructor
  · intro h3 ss hs ht
    have h4:=L5u (m:=rest m set) (ss:=ss) (by
      have:ss = ss.filter fun s=>!Je set s:=(List.filter_eq_self.2 fun s hs=>by simp [ht s hs]).symm
      rw [this]; exact hs.filter _)
    have:Ue (rest m set) ss = Ue m ss:=rfl
    omega
  · intro h3
    obtain ⟨ss,hs,he⟩:=L7s (m:=rest m set)
    have:Ue (rest m set) ss = Ue m ss:=rfl
    have:=h3 ss (hs.trans List.filter_sublist) fun s hm=>by
      have:=(List.mem_filter.1 (hs.subset hm)).2
      simpa using this
    omega
end Go.Proofs.YtphgjjmlnkgghaaGreatDoor

namespace Go.Proofs.YtphgjjmlnkgghaaGreatDoor
set_option maxHeartbeats 1000000
open Go
set_option maxRecDepth 100000 in
theorem L6v {mn:Bool} {X:Frame→List Frame→Ro→Own→Cy→Prop} {ρ:Ro} {σ:Own} {m:Market} {vm vl:Value} {l:List Int} (rm:Val ρ vm m) (rl:Val ρ vl l):CallsH (CX mn X) 65 #[vm,vl] ρ σ (fun w ρ' σ'=>ρ' = ρ∧σ' = σ∧w = (.tuple #[(iV (L2z m l)),(iV (L1m m l))])):=by
 refine Bh (n:=48) (args:=[vm,vl]) [4,5] Tryz.func65 rfl rfl rfl rfl fun Q hret hnor=>?_
 refine w_q rfl rfl fun K1 k1=>?_
 refine Arv (Eb (v:=vm) rfl fun k2=>?_)
 refine Bb (a:=m) rm fun ρ2 l2 r2=>?_
 replace rl:=Asj l2 rl
 refine l_v (Cp (v:=(iV (0))) rfl) ?_
 refine l_v (Cp (v:=(iV (0))) rfl) ?_
 refine Ary rfl rfl k1 fun K3 K4 k3 k4=>?_
 refine Arw (Ax Ln rfl r2) fun v5 r5=>?_
 refine Arv (Bm (Js r5) Tryz.func91 rfl rfl ⟨rfl,trivial⟩ ?_)
 refine l_v (Cp (v:=(iV (Cf m))) rfl) ?_
 refine Arx rfl rfl k4 fun K6 k6=>?_
 refine l_v (Ah (v:=(iV (Cf m))) rfl) ?_
 refine l_v (Dg rfl rfl) ?_
 refine l_k k6 ?_
 refine As (t:=Cf m != 0) rfl (fun b7=>?_) (fun b7=>?_)
 ·have q7:=Ls b7
  refine w_q rfl rfl fun K8 k8=>?_
  refine l_v (Ah (v:=(iV (Cf m))) rfl) ?_
  refine l_v (Cp (v:=(iV (0))) rfl) ?_
  refine l_v (Cp (v:=(iV (Cf m))) rfl) ?_
  refine l_k k8 ?_
  refine Aj (Asf l2) ?_
  refine Aq ?_
  refine hret _ _ _ ⟨rfl,rfl,Eq.trans (b:=(.tuple #[(iV (0)),(iV (Cf m))])) (Mp (r:=4) (r':=5) (rs:=[]) (v:=(iV (0))) (v':=(iV (Cf m))) (vs:=[]) ⟨rfl,rfl,trivial⟩) ?_⟩
  have hp:L1m m l = Cf m:=by rw [L1m,Ry q7]
  rw [hp,L2z,hp,if_neg q7]
 have q7:=Jh b7
 refine Al ?_
 apply k3
 refine Asb rfl rfl fun K9 K10 k9 k10=>?_
 refine l_v (Ah (v:=vl) rfl) ?_
 have g11:=Val.len rl
 refine l_v (Ci (el:=3) Tryz.underlying49 rfl rl) ?_
 refine l_v (Ah (v:=(iV (0))) rfl) ?_
 refine l_k k10 ?_
 refine Ao ?_
 have ok:=Rg q7
 have hn8:=ok.nsales
 refine Cc (fun mm ee dd ρ' σ'=>∃ (i:Nat),(l.length - i) = mm∧[] = dd∧ρ2 = ρ'∧σ = σ'∧ee 1 = vl∧ee 2 = (.pointer (some ⟨k2,0,none⟩))∧ee 14 = vl∧ee 15 = (iV (((l.length:Nat):Int)))∧ee 16 = (iV ((i:Int)))∧(i ≤ l.length)∧(∀ j,j < i→L2a m l j = 0)∧True) (m:=_) ⟨0,rfl,rfl,rfl,rfl,rfl,rfl,rfl,rfl,rfl,(Nat.zero_le _),(fun j h=>absurd h (Nat.not_lt_zero _)),trivial⟩ ?_
 rintro m12 e12 _ _ _ ⟨i,rfl,rfl,rfl,rfl,h12_1,h12_2,h12_14,h12_15,h12_16,p12_0,p12_1,_⟩
 refine w_q rfl rfl fun K13 k13=>?_
 refine l_v (Da h12_16 h12_15) ?_
 refine Asa k13 fun K14 k14=>?_
 refine As (t:=decide ((i:Int) < ((l.length:Nat):Int))) rfl (fun b15=>?_) (fun b15=>?_)
 ·have q15:=of_decide_eq_true b15
  refine Al ?_
  apply k14
  refine Ai fun K16 k16=>?_
  refine Ao ?_
  refine w_q rfl rfl fun K17 k17=>?_
  refine l_v (Ah (v:=(iV ((i:Int)))) h12_16) ?_
  obtain ⟨a19,ha19⟩:=Ed (xs:=l) (i:=i) (by omega)
  refine Arw (Ch i Tryz.underlying49 ty3 h12_14 rl (q:=(i:Int)) h12_16 rfl ha19) fun v18 r18=>?_
  have ⟨g20a,g20b⟩:=At.rng r18
  refine l_v (Bc ty3 rfl r18) ?_
  refine l_v (Cp (v:=(iV ((i:Int)))) rfl) ?_
  refine l_v (Cp (v:=(iV (a19))) rfl) ?_
  refine l_k k17 ?_
  refine Ao ?_
  refine w_q rfl rfl fun K21 k21=>?_
  refine l_v (Ah (v:=(iV (a19))) rfl) ?_
  refine Arw (Ay Market.f_sales Tryz.underlying36 rfl rfl Qn (by decide) h12_2 r2) fun v22 r22=>?_
  refine Arw (Ax Qn rfl r22) fun v23 r23=>?_
  have g24:=Val.len r23
  refine l_v (Ci (el:=146) Tryz.underlying34 rfl r23) ?_
  refine l_v (Ou rfl rfl (z:=(((m.sales.length:Nat):Int) - 1)) (Bo (by first | rfl | omega | (push_cast; rfl)) (by omega) (by omega))) ?_
  refine Arv (Bm (Jl) Tryz.func117 rfl rfl ⟨rfl,rfl,rfl,trivial⟩ ?_)
  refine l_v (Iy rfl) ?_
  refine l_v (Cp (v:=(.bool (!(inR a19 0 ((((m.sales.length:Nat):Int) - 1)))))) rfl) ?_
  refine l_k k21 ?_
  refine As (t:=!(inR a19 0 ((((m.sales.length:Nat):Int) - 1)))) rfl (fun b25=>?_) (fun b25=>?_)
  ·have b26:=not_eq_t b25
   have q26:=Tr.1 b26
   refine w_q rfl rfl fun K27 k27=>?_
   refine l_v (Cp (v:=(iV (0))) rfl) ?_
   refine l_v (Cp (v:=(iV (6))) rfl) ?_
   refine l_k k27 ?_
   refine Aj (Asf l2) ?_
   refine Aq ?_
   refine hret _ _ _ ⟨rfl,rfl,Eq.trans (b:=(.tuple #[(iV (0)),(iV (6))])) (Mp (r:=4) (r':=5) (rs:=[]) (v:=(iV (0))) (v':=(iV (6))) (vs:=[]) ⟨rfl,rfl,trivial⟩) ?_⟩
   have hf:L2a m l i = 6:=M0e ha19 b26
   have hp:L1m m l = 6:=by rw [L1m,Gr q7,Db p12_1 (by omega) hf (by omega)]
   rw [hp,L2z,hp,if_neg (by omega)]
  have b28:=not_eq_f b25
  have q28:=Fz.1 b28
  refine w_q rfl rfl fun K29 k29=>?_
  refine l_v (Ah (v:=(iV ((i:Int)))) rfl) ?_
  refine l_v (Gl rfl rfl) ?_
  refine l_v (Ah (v:=(.bool (decide ((i:Int) > 0)))) rfl) ?_
  refine Cn (decide ((i:Int) > 0)) (fun b30=>?_) (fun b30=>?_)
  ·have q30:=of_decide_eq_true b30
   refine l_M (iV (a19)) (Ar rfl rfl rfl b30) rfl ?_
   refine Aa (Ar rfl rfl rfl b30) (Ah (v:=vl) h12_1) ?_
   refine l_M (iV ((i:Int))) (Ar rfl rfl rfl b30) rfl ?_
   refine Aa (Ar rfl rfl rfl b30) (Ou rfl rfl (z:=((i:Int) - 1)) (Bo (by first | rfl | omega | (push_cast; rfl)) (by omega) (by omega))) ?_
   obtain ⟨a32,ha32⟩:=Ed (xs:=l) (i:=(((i:Int) - 1)).toNat) (by omega)
   refine Ak (Ar rfl rfl rfl b30) (Ch ((((i:Int) - 1)).toNat) Tryz.underlying49 ty3 rfl rl (q:=((i:Int) - 1)) rfl (by omega) ha32) fun v31 r31=>?_
   have ⟨g33a,g33b⟩:=At.rng r31
   refine Aa (Ar rfl rfl rfl b30) (Bc ty3 rfl r31) ?_
   refine Aa (Ar rfl rfl rfl b30) (Uz rfl rfl) ?_
   refine l_v (Bt rfl b30 (v:=(.bool (decide (a19 ≤ a32)))) rfl) ?_
   refine l_v (Cp (v:=(.bool (decide (a19 ≤ a32)))) rfl) ?_
   refine l_k k29 ?_
   refine As (t:=decide (a19 ≤ a32)) rfl (fun b34=>?_) (fun b34=>?_)
   ·have q34:=of_decide_eq_true b34
    refine w_q rfl rfl fun K35 k35=>?_
    refine l_v (Cp (v:=(iV (0))) rfl) ?_
    refine l_v (Cp (v:=(iV (7))) rfl) ?_
    refine l_k k35 ?_
    refine Aj (Asf l2) ?_
    refine Aq ?_
    refine hret _ _ _ ⟨rfl,rfl,Eq.trans (b:=(.tuple #[(iV (0)),(iV (7))])) (Mp (r:=4) (r':=5) (rs:=[]) (v:=(iV (0))) (v':=(iV (7))) (vs:=[]) ⟨rfl,rfl,trivial⟩) ?_⟩
    have hf:L2a m l i = 7:=M0f ha19 b28 (by omega) (by rw [← ha32]; congr 1; omega) (by omega)
    have hp:L1m m l = 7:=by rw [L1m,Gr q7,Db p12_1 (by omega) hf (by omega)]
    rw [hp,L2z,hp,if_neg (by omega)]
   have q34:=of_decide_eq_false b34
   refine Al ?_
   apply k16
   refine Ag rfl rfl ?_
   refine l_v (Br h12_16 rfl (z:=(((i + 1):Nat):Int)) (Bo (by first | rfl | omega | (push_cast; rfl)) (by omega) (by omega))) ?_
   refine l_v (Ah (v:=(iV ((((i + 1):Nat):Int)))) rfl) ?_
   apply Ac
   refine ⟨_,?_,((i + 1)),rfl,rfl,rfl,rfl,h12_1,h12_2,h12_14,h12_15,rfl,(by omega),(Eg p12_1 (L8c ha19 b28 (.inr ⟨_,(by rw [← ha32]; congr 1; omega),by omega⟩))),trivial⟩
   omega
  have q30:=of_decide_eq_false b30
  refine Ap (Bl rfl rfl rfl b30) ?_
  refine Ap (Bl rfl rfl rfl b30) ?_
  refine Ap (Bl rfl rfl rfl b30) ?_
  refine Ap (Bl rfl rfl rfl b30) ?_
  refine Ap (Bl rfl rfl rfl b30) ?_
  refine Ap (Bl rfl rfl rfl b30) ?_
  refine Ap (Bl rfl rfl rfl b30) ?_
  refine l_v (Bn rfl b30 (v:=(.bool (false))) rfl) ?_
  refine l_v (Cp (v:=(.bool (false))) rfl) ?_
  refine l_k k29 ?_
  refine Cg rfl rfl ?_
  refine Al ?_
  apply k16
  refine Ag rfl rfl ?_
  refine l_v (Br h12_16 rfl (z:=(((i + 1):Nat):Int)) (Bo (by first | rfl | omega | (push_cast; rfl)) (by omega) (by omega))) ?_
  refine l_v (Ah (v:=(iV ((((i + 1):Nat):Int)))) rfl) ?_
  apply Ac
  refine ⟨_,?_,((i + 1)),rfl,rfl,rfl,rfl,h12_1,h12_2,h12_14,h12_15,rfl,(by omega),(Eg p12_1 (L8c ha19 b28 (.inl (by omega)))),trivial⟩
  omega
 have q15:=of_decide_eq_false b15
 refine Bx ?_
 apply k9
 refine Ai fun K36 k36=>?_
 refine Dc [0,1,2,3,4,5,6,7] (by kernel_rfl) rfl rfl ?_
 refine Cd (i:=0) [o1,o0,o0,o0,o0,o0,o0,o0] rfl (by kernel_rfl) rfl Ash rfl (Ax Ln h12_2 r2) fun v37 r37=>?_
 refine Cd (i:=1) [o1,o1,o0,o0,o0,o0,o0,o0] rfl (by kernel_rfl) rfl Ash rfl (Ax Ln h12_2 r2) fun v38 r38=>?_
 refine Bd (i:=4) [o1,o1,o0,o0,o1,o0,o0,o0] rfl (by kernel_rfl) rfl Ash rfl (Ah (v:=vl) h12_1) ?_
 refine Dj (i:=2) [o1,o1,o1,o0,o1,o0,o0,o0] rfl (by kernel_rfl) rfl rfl (Cm (vs:=[v38]) (Td r38 ok) Tryz.func92 rfl rfl ⟨rfl,trivial⟩ fun v39 ρ39 σ39 hc39=>?_)
 obtain ⟨l39,s39,r39⟩:=hc39
 replace s39:=s39.symm; subst s39
 replace rl:=Asj l39 rl
 replace r37:=Asj l39 r37
 refine ⟨l39,?_⟩
 refine Hk (i:=3) [o1,o1,o1,o1,o1,o0,o0,o0] rfl (by kernel_rfl) rfl l39 rfl (Rt rfl r37 rfl r39) fun v40 r40=>?_
 have hp0:L1m m l = 0:=by rw [L1m,Gr q7,Fb fun j hj=>p12_1 j (by omega)]
 obtain ⟨hp1,hp2,hp3⟩:=L9d hp0
 have hp4:=L9l hp3 hn8
 refine Dj (i:=5) [o1,o1,o1,o1,o1,o1,o0,o0] rfl (by kernel_rfl) rfl rfl (Bm (Acw (l:=L3a l) r40 (Val.cast hp2 rl) ok hp4.1 hp4.2) Tryz.func94 rfl rfl ⟨rfl,rfl,trivial⟩ ⟨l39,?_⟩)
 refine Bg (i:=6) [o1,o1,o1,o1,o1,o1,o1,o0] rfl (by kernel_rfl) rfl l39 rfl (Cp (v:=(iV (Bq m (L3a l)))) rfl) ?_
 refine Bg (i:=7) [o1,o1,o1,o1,o1,o1,o1,o1] rfl (by kernel_rfl) rfl l39 rfl (Cp (v:=(iV (0))) rfl) ?_
 refine Ec rfl ?_
 apply k36
 refine Aj (Asf (Asi l2 l39)) ?_
 refine Aq ?_
 refine hret _ _ _ ⟨rfl,rfl,Eq.trans (b:=(.tuple #[(iV (Bq m (L3a l))),(iV (0))])) (Mp (r:=4) (r':=5) (rs:=[]) (v:=(iV (Bq m (L3a l)))) (v':=(iV (0))) (vs:=[]) ⟨rfl,rfl,trivial⟩) ?_⟩
 rw [hp0,L2z,if_pos hp0]
end Go.Proofs.YtphgjjmlnkgghaaGreatDoor

namespace Go.Proofs.YtphgjjmlnkgghaaGreatDoor
open Go Go.WideShapes
/-- A number without a sign of two bytes. -/
structure UH where
  n:Nat
  lt:n < 65536
instance:Dat UH where
  k:=1
  agg:=false
  rep _ cs x:=cs = [.int .u16 (x.n:Int)]
  mono _ h:=h
  len h:=by rw [h]; rfl
  sgl h:=by rw [h]; simp [single]
  one _:=rfl
theorem L9u {ρ:Ro} {v:Value} {x:UH}:Val ρ v x↔v = .int .u16 (x.n:Int) :=
  ⟨fun ⟨cs,h1,h2⟩=>by rw [h2,show cs = [.int .u16 (x.n:Int)] from h1]; rfl,fun h=>⟨[v],by rw [h]; rfl,rfl⟩⟩
theorem M0g:GoTy Tryz.prog 75 UH:=⟨⟨_,Tryz.underlying75,rfl⟩,⟨_,Ab Tryz.typeInfo75,rfl⟩⟩
theorem L7d {P:Program} {ρ:Ro} {e:Env} {ty t:TypeId} {x:Operand} {p:Value} {a:UH} (hT:GoTy P t UH) (hx:Af e x = p) (hp:At ρ p a):Yld P ρ e (.load t x) ty (.int .u16 (a.n:Int)):=by
  obtain ⟨v,h1,h2⟩:=Ax (ty:=ty) hT hx hp
  rw [L9u.1 h1] at h2; exact h2
theorem L9s {t:TypeId} (ht:Tryz.prog.underlying t = some (.int .u16)) (hc:Tryz.prog.cellsOf t = 1):Api UH t :=
  ⟨hc,fun H enc W fuel cs x h _=>by
    obtain ⟨n,h1,_,h3⟩:=DataW.trod_int ht h
    simp [Lit.wf,IntKind.min,IntKind.max,IntKind.signed,IntKind.bits] at h3
    refine ⟨⟨n.toNat,by omega⟩,?_⟩
    show cs = [.int .u16 ((n.toNat:Nat):Int)]
    rw [h1,Int.toNat_of_nonneg (by omega)]⟩
section
variable {H:Type} {enc:TypeId × Value→H} {W:World} {r:Reach} {base t:Nat} {v:Value} {d:DataW H} {p:List MemPlace}
end
/-- The k-th choice,or 0. -/
def L0g (l:List UH) (k:Nat):Nat:=match l[k]? with | some x=>x.n | none=>0
theorem L3g {l:List UH} {k:Nat}:L0g l k < 65536:=by
  unfold L0g; split
  · rename_i x _; exact x.lt
  · decide
theorem L5r {l:List UH} {k:Nat} {x:UH} (h:l[k]? = some x):L0g l k = x.n:=by unfold L0g; rw [h]
theorem L4y {l:List UH} {k:Nat} (h:l.length ≤ k):L0g l k = 0:=by unfold L0g; rw [List.getElem?_eq_none h]
end Go.Proofs.YtphgjjmlnkgghaaGreatDoor

namespace Go.Proofs.YtphgjjmlnkgghaaGreatDoor
open Go
theorem L4w:∀ {l:List Nat} {f b i x y:Nat},asc f b l→l[i]? = some x→l[i + 1]? = some y→x < y
  | [],_,_,_,_,_,_,h,_=>by simp at h
  | a :: l,f,b,0,x,y,⟨_,_,h⟩,hx,hy=>by
    simp only [List.getElem?_cons_zero,Option.some.injEq] at hx
    subst hx
    have:=L2l h y (List.mem_of_getElem? (by simpa using hy))
    omega
  | a :: l,f,b,i + 1,x,y,⟨_,_,h⟩,hx,hy=>L4w (i:=i) h (by simpa using hx) (by simpa using hy)
theorem L8a {l:List Nat}:L3a (Bw l) = l:=by
  unfold L3a Bw
  rw [List.map_map]
  have:(Int.toNat ∘ Int.ofNat) = id:=by funext x; rfl
  rw [this,List.map_id]
theorem L4a {m:Market} {l:List Nat} (h:Cf m = 0) (ha:asc 0 m.sales.length l):L1m m (Bw l) = 0:=by
  unfold L1m
  rw [Jx]
  refine ⟨h,Fx.2 fun j hj=>?_⟩
  have hj':j < l.length:=by simpa [Bw] using hj
  have hx:l[j]? = some l[j]:=List.getElem?_eq_getElem hj'
  have hx':(Bw l)[j]? = some ((l[j]:Nat):Int):=by simp [Bw,hx]
  have hm:=L2l ha l[j] (List.getElem_mem hj')
  refine L8c hx' (Fz.2 ⟨by omega,by omega⟩) ?_
  rcases Nat.eq_zero_or_pos j with h0 | h0
  · exact .inl h0
  · have hp:l[j - 1]? = some l[j - 1]:=List.getElem?_eq_getElem (by omega)
    refine .inr ⟨((l[j - 1]:Nat):Int),by simp [Bw,hp],?_⟩
    have:=L4w (i:=j - 1) ha hp (by rw [show j - 1 + 1 = j by omega]; exact hx)
    omega
theorem L7a {m:Market} {l:List Nat} (h:Cf m = 0) (ha:asc 0 m.sales.length l):L2z m (Bw l) = Bq m l:=by
  unfold L2z
  rw [if_pos (L4a h ha),L8a]
theorem L5d {m:Market} (h:Cf m = 0):L1m m (Ahs m) = 0∧L2z m (Ahs m) = Ahr m:=by
  unfold Ahs Ahr
  rw [if_pos h,if_pos h]
  exact ⟨L4a h (L2m m).1,L7a h (L2m m).1⟩
theorem L5c {m:Market} (h:Cf m = 0):0 ≤ Ahr m:=by
  unfold Ahr; rw [if_pos h]; exact L2g (Rg h)
theorem L9t {m:Market}:rest m 0 = m:=by
  unfold rest
  have:(m.sales.filter fun s=>!Je 0 s) = m.sales:=by
    rw [List.filter_eq_self]
    intro s _
    simp [Je,Cu]
  rw [this]
theorem L5t {m:Market} (h:Cf m = 0):Ahr m = 0↔Fj m 0 = true:=by
  rw [← L5s h 0,L9t,beq_iff_eq]
theorem L5v {m:Market} {n x:Nat}:x ∈ lv m n↔x < 1 <<< m.houses.length∧De x = n∧Fj m x = true:=by
  unfold lv Ani
  rw [List.mem_filter,List.mem_range,Bool.and_eq_true,beq_iff_eq]
theorem M0d {m:Market} {n x:Nat} (h:x ∈ lv m n):(!(lv m n).isEmpty) = true:=by
  cases hl:lv m n with
  | nil=>rw [hl] at h; cases h
  | cons a l=>rfl
theorem L7o {m:Market} (ok:MarketOk m):(∃ x,x ∈ lv m (Abc m))∧∀ j,j < Abc m→∀ x,x ∉ lv m j:=by
  obtain ⟨n,hn,he⟩:=Ali ok
  unfold Abc
  rcases Ft (n:=m.houses.length + 1) (p:=fun n=>!(lv m n).isEmpty) with ⟨i,_,hp,hlt,hf⟩ | ⟨h1,_⟩
  · rw [hf]
    refine ⟨?_,fun j hj x hx=>?_⟩
    · show ∃ x,x ∈ lv m i
      cases hl:lv m i with
      | nil=>simp only [hl] at hp; cases hp
      | cons a l=>exact ⟨a,List.mem_cons_self ..⟩
    · have h2:=hlt j hj
      have h3:=M0d hx
      rw [h2] at h3; cases h3
  · have:=h1 n hn
    rw [he] at this; cases this
theorem L9r {m:Market} (ok:MarketOk m) {x:Nat} (hx:x < 1 <<< m.houses.length) (he:Fj m x = true):Abc m ≤ De x:=by
  rcases Nat.lt_or_ge (De x) (Abc m) with h | h
  · exact absurd (L5v.2 ⟨hx,rfl,he⟩) ((L7o ok).2 _ h x)
  · exact h
theorem L7w {m:Market} (ok:MarketOk m) {n x:Nat} (h:x ∈ lv m n):x < 32:=by
  have:=(L5v.1 h).1
  have h5:=(Alu (Hn ok)).2
  omega
theorem L7p {m:Market} (ok:MarketOk m):Abc m = 0↔Fj m 0 = true:=by
  constructor
  · intro h
    obtain ⟨x,hx⟩:=(L7o ok).1
    rw [h] at hx
    have hm:=L5v.1 hx
    have:=Ais (L7w ok hx) hm.2.1
    rw [this] at hm; exact hm.2.2
  · intro h
    have:=L9r ok (x:=0) (by have:=(Alu (Hn ok)).1; omega) h
    have e:De 0 = 0:=by decide
    omega
theorem L8t {m:Market} (h:Cf m = 0):Ahr m > 0↔Akw m > 0:=by
  have h1:=L5t h
  have h2:=L7p (Rg h)
  have h3:=L5c h
  unfold Akw
  rw [if_pos h]
  constructor
  · intro h4
    have:¬ Abc m = 0:=fun h5=>by have:=h1.2 (h2.1 h5); omega
    omega
  · intro h4
    have:¬ Ahr m = 0:=fun h5=>by have:=h2.2 (h1.1 h5); omega
    omega
end Go.Proofs.YtphgjjmlnkgghaaGreatDoor

namespace Go.Proofs.YtphgjjmlnkgghaaGreatDoor
open Go
structure DryHeat where
  dries:Int
  burns:Int
deriving DecidableEq
instance:Dat DryHeat:=.iso fun x=>(x.dries,x.burns)
theorem DryHeat.f_dries:Fld DryHeat (Int) 0 DryHeat.dries:=⟨fun ρ cs x=>(Fld.fst:Fld ((Int) × (Int)) (Int) 0 _).at_ ρ cs (x.dries,x.burns)⟩
theorem DryHeat.f_burns:Fld DryHeat (Int) 1 DryHeat.burns:=⟨fun ρ cs x=>((.snd Fld.self):Fld ((Int) × (Int)) (Int) 1 _).at_ ρ cs (x.dries,x.burns)⟩
theorem DryHeat.open_ {ρ:Ro} {v:Value} {x:DryHeat} (h:Val ρ v x):v = .agg #[.int .i64 x.dries,.int .i64 x.burns]∧I64 x.dries∧I64 x.burns:=by
  obtain ⟨cs,⟨q0,r0,f0,⟨a1,b1⟩,⟨a2,b2⟩⟩,hv⟩:=h
  subst f0
  subst a1
  subst a2
  exact ⟨hv,b1,b2⟩
theorem DryHeat.shut {ρ:Ro} {x:DryHeat} (h0:I64 x.dries) (h1:I64 x.burns):Val ρ (.agg #[.int .i64 x.dries,.int .i64 x.burns]) x:=⟨[.int .i64 x.dries,.int .i64 x.burns],⟨[.int .i64 x.dries],[.int .i64 x.burns],rfl,⟨rfl,h0⟩,⟨rfl,h1⟩⟩,rfl⟩
structure DryState where
  water:Int
  colour:Int
  heat:Int
deriving DecidableEq
instance:Dat DryState:=.iso fun x=>(x.water,(x.colour,x.heat))
theorem DryState.f_water:Fld DryState (Int) 0 DryState.water:=⟨fun ρ cs x=>(Fld.fst:Fld ((Int) × (Int) × (Int)) (Int) 0 _).at_ ρ cs (x.water,(x.colour,x.heat))⟩
theorem DryState.f_colour:Fld DryState (Int) 1 DryState.colour:=⟨fun ρ cs x=>((.snd Fld.fst):Fld ((Int) × (Int) × (Int)) (Int) 1 _).at_ ρ cs (x.water,(x.colour,x.heat))⟩
theorem DryState.f_heat:Fld DryState (Int) 2 DryState.heat:=⟨fun ρ cs x=>((.snd (.snd Fld.self)):Fld ((Int) × (Int) × (Int)) (Int) 2 _).at_ ρ cs (x.water,(x.colour,x.heat))⟩
theorem DryState.open_ {ρ:Ro} {v:Value} {x:DryState} (h:Val ρ v x):v = .agg #[.int .i64 x.water,.int .i64 x.colour,.int .i64 x.heat]∧I64 x.water∧I64 x.colour∧I64 x.heat:=by
  obtain ⟨cs,⟨q0,r0,f0,⟨a1,b1⟩,⟨q2,r2,f2,⟨a3,b3⟩,⟨a4,b4⟩⟩⟩,hv⟩:=h
  subst f0
  subst f2
  subst a1
  subst a3
  subst a4
  exact ⟨hv,b1,b3,b4⟩
theorem DryState.shut {ρ:Ro} {x:DryState} (h0:I64 x.water) (h1:I64 x.colour) (h2:I64 x.heat):Val ρ (.agg #[.int .i64 x.water,.int .i64 x.colour,.int .i64 x.heat]) x:=⟨[.int .i64 x.water,.int .i64 x.colour,.int .i64 x.heat],⟨[.int .i64 x.water],([.int .i64 x.colour] ++ [.int .i64 x.heat]),rfl,⟨rfl,h0⟩,⟨[.int .i64 x.colour],[.int .i64 x.heat],rfl,⟨rfl,h1⟩,⟨rfl,h2⟩⟩⟩,rfl⟩
structure DryStep where
  damp:Span
  tended:Bool
  water:Span
  colour:Int
deriving DecidableEq
instance:Dat DryStep:=.iso fun x=>(x.damp,(x.tended,(x.water,x.colour)))
theorem DryStep.f_damp:Fld DryStep (Span) 0 DryStep.damp:=⟨fun ρ cs x=>(Fld.fst:Fld ((Span) × (Bool) × (Span) × (Int)) (Span) 0 _).at_ ρ cs (x.damp,(x.tended,(x.water,x.colour)))⟩
theorem DryStep.f_tended:Fld DryStep (Bool) 2 DryStep.tended:=⟨fun ρ cs x=>((.snd Fld.fst):Fld ((Span) × (Bool) × (Span) × (Int)) (Bool) 2 _).at_ ρ cs (x.damp,(x.tended,(x.water,x.colour)))⟩
theorem DryStep.f_water:Fld DryStep (Span) 3 DryStep.water:=⟨fun ρ cs x=>((.snd (.snd Fld.fst)):Fld ((Span) × (Bool) × (Span) × (Int)) (Span) 3 _).at_ ρ cs (x.damp,(x.tended,(x.water,x.colour)))⟩
theorem DryStep.f_colour:Fld DryStep (Int) 5 DryStep.colour:=⟨fun ρ cs x=>((.snd (.snd (.snd Fld.self))):Fld ((Span) × (Bool) × (Span) × (Int)) (Int) 5 _).at_ ρ cs (x.damp,(x.tended,(x.water,x.colour)))⟩
theorem DryStep.open_ {ρ:Ro} {v:Value} {x:DryStep} (h:Val ρ v x):v = .agg #[.int .i64 x.damp.low,.int .i64 x.damp.high,.bool x.tended,.int .i64 x.water.low,.int .i64 x.water.high,.int .i64 x.colour]∧I64 x.damp.low∧I64 x.damp.high∧I64 x.water.low∧I64 x.water.high∧I64 x.colour:=by
  obtain ⟨cs,⟨q0,r0,f0,⟨q1,r1,f1,⟨a2,b2⟩,⟨a3,b3⟩⟩,⟨q4,r4,f4,a5,⟨q6,r6,f6,⟨q7,r7,f7,⟨a8,b8⟩,⟨a9,b9⟩⟩,⟨a10,b10⟩⟩⟩⟩,hv⟩:=h
  subst f1
  subst f0
  subst f4
  subst f7
  subst f6
  subst a2
  subst a3
  (have a5':=a5; simp only [Dat.rep] at a5'; subst a5')
  subst a8
  subst a9
  subst a10
  exact ⟨hv,b2,b3,b8,b9,b10⟩
theorem DryStep.shut {ρ:Ro} {x:DryStep} (h0:I64 x.damp.low) (h1:I64 x.damp.high) (h2:I64 x.water.low) (h3:I64 x.water.high) (h4:I64 x.colour):Val ρ (.agg #[.int .i64 x.damp.low,.int .i64 x.damp.high,.bool x.tended,.int .i64 x.water.low,.int .i64 x.water.high,.int .i64 x.colour]) x:=⟨[.int .i64 x.damp.low,.int .i64 x.damp.high,.bool x.tended,.int .i64 x.water.low,.int .i64 x.water.high,.int .i64 x.colour],⟨([.int .i64 x.damp.low] ++ [.int .i64 x.damp.high]),([.bool x.tended] ++ (([.int .i64 x.water.low] ++ [.int .i64 x.water.high]) ++ [.int .i64 x.colour])),rfl,⟨[.int .i64 x.damp.low],[.int .i64 x.damp.high],rfl,⟨rfl,h0⟩,⟨rfl,h1⟩⟩,⟨[.bool x.tended],(([.int .i64 x.water.low] ++ [.int .i64 x.water.high]) ++ [.int .i64 x.colour]),rfl,rfl,⟨([.int .i64 x.water.low] ++ [.int .i64 x.water.high]),[.int .i64 x.colour],rfl,⟨[.int .i64 x.water.low],[.int .i64 x.water.high],rfl,⟨rfl,h2⟩,⟨rfl,h3⟩⟩,⟨rfl,h4⟩⟩⟩⟩,rfl⟩
structure Drying where
  heats:List DryHeat
  soak:Int
  brittle:Int
  start:DryState
  steps:List DryStep
deriving DecidableEq
instance:Dat Drying:=.iso fun x=>(x.heats,(x.soak,(x.brittle,(x.start,x.steps))))
theorem Drying.f_heats:Fld Drying (List DryHeat) 0 Drying.heats:=⟨fun ρ cs x=>(Fld.fst:Fld ((List DryHeat) × (Int) × (Int) × (DryState) × (List DryStep)) (List DryHeat) 0 _).at_ ρ cs (x.heats,(x.soak,(x.brittle,(x.start,x.steps))))⟩
theorem Drying.f_soak:Fld Drying (Int) 1 Drying.soak:=⟨fun ρ cs x=>((.snd Fld.fst):Fld ((List DryHeat) × (Int) × (Int) × (DryState) × (List DryStep)) (Int) 1 _).at_ ρ cs (x.heats,(x.soak,(x.brittle,(x.start,x.steps))))⟩
theorem Drying.f_brittle:Fld Drying (Int) 2 Drying.brittle:=⟨fun ρ cs x=>((.snd (.snd Fld.fst)):Fld ((List DryHeat) × (Int) × (Int) × (DryState) × (List DryStep)) (Int) 2 _).at_ ρ cs (x.heats,(x.soak,(x.brittle,(x.start,x.steps))))⟩
theorem Drying.f_start:Fld Drying (DryState) 3 Drying.start:=⟨fun ρ cs x=>((.snd (.snd (.snd Fld.fst))):Fld ((List DryHeat) × (Int) × (Int) × (DryState) × (List DryStep)) (DryState) 3 _).at_ ρ cs (x.heats,(x.soak,(x.brittle,(x.start,x.steps))))⟩
theorem Drying.f_steps:Fld Drying (List DryStep) 6 Drying.steps:=⟨fun ρ cs x=>((.snd (.snd (.snd (.snd Fld.self)))):Fld ((List DryHeat) × (Int) × (Int) × (DryState) × (List DryStep)) (List DryStep) 6 _).at_ ρ cs (x.heats,(x.soak,(x.brittle,(x.start,x.steps))))⟩
theorem Drying.open_ {ρ:Ro} {v:Value} {x:Drying} (h:Val ρ v x):∃ c0 c1,v = .agg #[c0,.int .i64 x.soak,.int .i64 x.brittle,.int .i64 x.start.water,.int .i64 x.start.colour,.int .i64 x.start.heat,c1]∧Val ρ c0 x.heats∧I64 x.soak∧I64 x.brittle∧I64 x.start.water∧I64 x.start.colour∧I64 x.start.heat∧Val ρ c1 x.steps:=by
  obtain ⟨cs,⟨q0,r0,f0,⟨w1,a1,b1⟩,⟨q2,r2,f2,⟨a3,b3⟩,⟨q4,r4,f4,⟨a5,b5⟩,⟨q6,r6,f6,⟨q7,r7,f7,⟨a8,b8⟩,⟨q9,r9,f9,⟨a10,b10⟩,⟨a11,b11⟩⟩⟩,⟨w12,a12,b12⟩⟩⟩⟩⟩,hv⟩:=h
  subst f0
  subst f2
  subst f4
  subst f7
  subst f9
  subst f6
  subst a1
  subst a3
  subst a5
  subst a8
  subst a10
  subst a11
  subst a12
  exact ⟨w1,w12,hv,Cs.2 b1,b3,b5,b8,b10,b11,Cs.2 b12⟩
theorem Drying.shut {ρ:Ro} {x:Drying} {c0 c1:Value} (h0:Val ρ c0 x.heats) (h1:I64 x.soak) (h2:I64 x.brittle) (h3:I64 x.start.water) (h4:I64 x.start.colour) (h5:I64 x.start.heat) (h6:Val ρ c1 x.steps):Val ρ (.agg #[c0,.int .i64 x.soak,.int .i64 x.brittle,.int .i64 x.start.water,.int .i64 x.start.colour,.int .i64 x.start.heat,c1]) x:=⟨[c0,.int .i64 x.soak,.int .i64 x.brittle,.int .i64 x.start.water,.int .i64 x.start.colour,.int .i64 x.start.heat,c1],⟨[c0],([.int .i64 x.soak] ++ ([.int .i64 x.brittle] ++ (([.int .i64 x.start.water] ++ ([.int .i64 x.start.colour] ++ [.int .i64 x.start.heat])) ++ [c1]))),rfl,⟨c0,rfl,Cs.1 h0⟩,⟨[.int .i64 x.soak],([.int .i64 x.brittle] ++ (([.int .i64 x.start.water] ++ ([.int .i64 x.start.colour] ++ [.int .i64 x.start.heat])) ++ [c1])),rfl,⟨rfl,h1⟩,⟨[.int .i64 x.brittle],(([.int .i64 x.start.water] ++ ([.int .i64 x.start.colour] ++ [.int .i64 x.start.heat])) ++ [c1]),rfl,⟨rfl,h2⟩,⟨([.int .i64 x.start.water] ++ ([.int .i64 x.start.colour] ++ [.int .i64 x.start.heat])),[c1],rfl,⟨[.int .i64 x.start.water],([.int .i64 x.start.colour] ++ [.int .i64 x.start.heat]),rfl,⟨rfl,h3⟩,⟨[.int .i64 x.start.colour],[.int .i64 x.start.heat],rfl,⟨rfl,h4⟩,⟨rfl,h5⟩⟩⟩,⟨c1,rfl,Cs.1 h6⟩⟩⟩⟩⟩,rfl⟩
structure DWindow where
  step:DryStep
deriving DecidableEq
instance:Dat DWindow:=.iso fun x=>x.step
theorem DWindow.f_step:Fld DWindow (DryStep) 0 DWindow.step:=⟨fun ρ cs x=>(Fld.self:Fld ((DryStep)) (DryStep) 0 _).at_ ρ cs x.step⟩
theorem DWindow.open_ {ρ:Ro} {v:Value} {x:DWindow} (h:Val ρ v x):v = .agg #[.int .i64 x.step.damp.low,.int .i64 x.step.damp.high,.bool x.step.tended,.int .i64 x.step.water.low,.int .i64 x.step.water.high,.int .i64 x.step.colour]∧I64 x.step.damp.low∧I64 x.step.damp.high∧I64 x.step.water.low∧I64 x.step.water.high∧I64 x.step.colour:=by
  obtain ⟨cs,⟨q0,r0,f0,⟨q1,r1,f1,⟨a2,b2⟩,⟨a3,b3⟩⟩,⟨q4,r4,f4,a5,⟨q6,r6,f6,⟨q7,r7,f7,⟨a8,b8⟩,⟨a9,b9⟩⟩,⟨a10,b10⟩⟩⟩⟩,hv⟩:=h
  subst f1
  subst f0
  subst f4
  subst f7
  subst f6
  subst a2
  subst a3
  (have a5':=a5; simp only [Dat.rep] at a5'; subst a5')
  subst a8
  subst a9
  subst a10
  exact ⟨hv,b2,b3,b8,b9,b10⟩
theorem DWindow.shut {ρ:Ro} {x:DWindow} (h0:I64 x.step.damp.low) (h1:I64 x.step.damp.high) (h2:I64 x.step.water.low) (h3:I64 x.step.water.high) (h4:I64 x.step.colour):Val ρ (.agg #[.int .i64 x.step.damp.low,.int .i64 x.step.damp.high,.bool x.step.tended,.int .i64 x.step.water.low,.int .i64 x.step.water.high,.int .i64 x.step.colour]) x:=⟨[.int .i64 x.step.damp.low,.int .i64 x.step.damp.high,.bool x.step.tended,.int .i64 x.step.water.low,.int .i64 x.step.water.high,.int .i64 x.step.colour],⟨([.int .i64 x.step.damp.low] ++ [.int .i64 x.step.damp.high]),([.bool x.step.tended] ++ (([.int .i64 x.step.water.low] ++ [.int .i64 x.step.water.high]) ++ [.int .i64 x.step.colour])),rfl,⟨[.int .i64 x.step.damp.low],[.int .i64 x.step.damp.high],rfl,⟨rfl,h0⟩,⟨rfl,h1⟩⟩,⟨[.bool x.step.tended],(([.int .i64 x.step.water.low] ++ [.int .i64 x.step.water.high]) ++ [.int .i64 x.step.colour]),rfl,rfl,⟨([.int .i64 x.step.water.low] ++ [.int .i64 x.step.water.high]),[.int .i64 x.step.colour],rfl,⟨[.int .i64 x.step.water.low],[.int .i64 x.step.water.high],rfl,⟨rfl,h2⟩,⟨rfl,h3⟩⟩,⟨rfl,h4⟩⟩⟩⟩,rfl⟩
structure Stage where
  window:DWindow
  heats:Int
deriving DecidableEq
instance:Dat Stage:=.iso fun x=>(x.window,x.heats)
theorem Stage.f_window:Fld Stage (DWindow) 0 Stage.window:=⟨fun ρ cs x=>(Fld.fst:Fld ((DWindow) × (Int)) (DWindow) 0 _).at_ ρ cs (x.window,x.heats)⟩
theorem Stage.f_heats:Fld Stage (Int) 6 Stage.heats:=⟨fun ρ cs x=>((.snd Fld.self):Fld ((DWindow) × (Int)) (Int) 6 _).at_ ρ cs (x.window,x.heats)⟩
theorem Stage.open_ {ρ:Ro} {v:Value} {x:Stage} (h:Val ρ v x):v = .agg #[.int .i64 x.window.step.damp.low,.int .i64 x.window.step.damp.high,.bool x.window.step.tended,.int .i64 x.window.step.water.low,.int .i64 x.window.step.water.high,.int .i64 x.window.step.colour,.int .i64 x.heats]∧I64 x.window.step.damp.low∧I64 x.window.step.damp.high∧I64 x.window.step.water.low∧I64 x.window.step.water.high∧I64 x.window.step.colour∧I64 x.heats:=by
  obtain ⟨cs,⟨q0,r0,f0,⟨q1,r1,f1,⟨q2,r2,f2,⟨a3,b3⟩,⟨a4,b4⟩⟩,⟨q5,r5,f5,a6,⟨q7,r7,f7,⟨q8,r8,f8,⟨a9,b9⟩,⟨a10,b10⟩⟩,⟨a11,b11⟩⟩⟩⟩,⟨a12,b12⟩⟩,hv⟩:=h
  subst f2
  subst f1
  subst f5
  subst f8
  subst f7
  subst f0
  subst a3
  subst a4
  (have a6':=a6; simp only [Dat.rep] at a6'; subst a6')
  subst a9
  subst a10
  subst a11
  subst a12
  exact ⟨hv,b3,b4,b9,b10,b11,b12⟩
theorem Stage.shut {ρ:Ro} {x:Stage} (h0:I64 x.window.step.damp.low) (h1:I64 x.window.step.damp.high) (h2:I64 x.window.step.water.low) (h3:I64 x.window.step.water.high) (h4:I64 x.window.step.colour) (h5:I64 x.heats):Val ρ (.agg #[.int .i64 x.window.step.damp.low,.int .i64 x.window.step.damp.high,.bool x.window.step.tended,.int .i64 x.window.step.water.low,.int .i64 x.window.step.water.high,.int .i64 x.window.step.colour,.int .i64 x.heats]) x:=⟨[.int .i64 x.window.step.damp.low,.int .i64 x.window.step.damp.high,.bool x.window.step.tended,.int .i64 x.window.step.water.low,.int .i64 x.window.step.water.high,.int .i64 x.window.step.colour,.int .i64 x.heats],⟨(([.int .i64 x.window.step.damp.low] ++ [.int .i64 x.window.step.damp.high]) ++ ([.bool x.window.step.tended] ++ (([.int .i64 x.window.step.water.low] ++ [.int .i64 x.window.step.water.high]) ++ [.int .i64 x.window.step.colour]))),[.int .i64 x.heats],rfl,⟨([.int .i64 x.window.step.damp.low] ++ [.int .i64 x.window.step.damp.high]),([.bool x.window.step.tended] ++ (([.int .i64 x.window.step.water.low] ++ [.int .i64 x.window.step.water.high]) ++ [.int .i64 x.window.step.colour])),rfl,⟨[.int .i64 x.window.step.damp.low],[.int .i64 x.window.step.damp.high],rfl,⟨rfl,h0⟩,⟨rfl,h1⟩⟩,⟨[.bool x.window.step.tended],(([.int .i64 x.window.step.water.low] ++ [.int .i64 x.window.step.water.high]) ++ [.int .i64 x.window.step.colour]),rfl,rfl,⟨([.int .i64 x.window.step.water.low] ++ [.int .i64 x.window.step.water.high]),[.int .i64 x.window.step.colour],rfl,⟨[.int .i64 x.window.step.water.low],[.int .i64 x.window.step.water.high],rfl,⟨rfl,h2⟩,⟨rfl,h3⟩⟩,⟨rfl,h4⟩⟩⟩⟩,⟨rfl,h5⟩⟩,rfl⟩
structure Stove where
  d:Drying
  stages:List Stage
deriving DecidableEq
instance:Dat Stove:=.iso fun x=>(x.d,x.stages)
theorem Stove.f_d:Fld Stove (Drying) 0 Stove.d:=⟨fun ρ cs x=>(Fld.fst:Fld ((Drying) × (List Stage)) (Drying) 0 _).at_ ρ cs (x.d,x.stages)⟩
theorem Stove.f_stages:Fld Stove (List Stage) 7 Stove.stages:=⟨fun ρ cs x=>((.snd Fld.self):Fld ((Drying) × (List Stage)) (List Stage) 7 _).at_ ρ cs (x.d,x.stages)⟩
theorem Stove.open_ {ρ:Ro} {v:Value} {x:Stove} (h:Val ρ v x):∃ c0 c1 c2,v = .agg #[c0,.int .i64 x.d.soak,.int .i64 x.d.brittle,.int .i64 x.d.start.water,.int .i64 x.d.start.colour,.int .i64 x.d.start.heat,c1,c2]∧Val ρ c0 x.d.heats∧I64 x.d.soak∧I64 x.d.brittle∧I64 x.d.start.water∧I64 x.d.start.colour∧I64 x.d.start.heat∧Val ρ c1 x.d.steps∧Val ρ c2 x.stages:=by
  obtain ⟨cs,⟨q0,r0,f0,⟨q1,r1,f1,⟨w2,a2,b2⟩,⟨q3,r3,f3,⟨a4,b4⟩,⟨q5,r5,f5,⟨a6,b6⟩,⟨q7,r7,f7,⟨q8,r8,f8,⟨a9,b9⟩,⟨q10,r10,f10,⟨a11,b11⟩,⟨a12,b12⟩⟩⟩,⟨w13,a13,b13⟩⟩⟩⟩⟩,⟨w14,a14,b14⟩⟩,hv⟩:=h
  subst f1
  subst f3
  subst f5
  subst f8
  subst f10
  subst f7
  subst f0
  subst a2
  subst a4
  subst a6
  subst a9
  subst a11
  subst a12
  subst a13
  subst a14
  exact ⟨w2,w13,w14,hv,Cs.2 b2,b4,b6,b9,b11,b12,Cs.2 b13,Cs.2 b14⟩
theorem Stove.shut {ρ:Ro} {x:Stove} {c0 c1 c2:Value} (h0:Val ρ c0 x.d.heats) (h1:I64 x.d.soak) (h2:I64 x.d.brittle) (h3:I64 x.d.start.water) (h4:I64 x.d.start.colour) (h5:I64 x.d.start.heat) (h6:Val ρ c1 x.d.steps) (h7:Val ρ c2 x.stages):Val ρ (.agg #[c0,.int .i64 x.d.soak,.int .i64 x.d.brittle,.int .i64 x.d.start.water,.int .i64 x.d.start.colour,.int .i64 x.d.start.heat,c1,c2]) x:=⟨[c0,.int .i64 x.d.soak,.int .i64 x.d.brittle,.int .i64 x.d.start.water,.int .i64 x.d.start.colour,.int .i64 x.d.start.heat,c1,c2],⟨([c0] ++ ([.int .i64 x.d.soak] ++ ([.int .i64 x.d.brittle] ++ (([.int .i64 x.d.start.water] ++ ([.int .i64 x.d.start.colour] ++ [.int .i64 x.d.start.heat])) ++ [c1])))),[c2],rfl,⟨[c0],([.int .i64 x.d.soak] ++ ([.int .i64 x.d.brittle] ++ (([.int .i64 x.d.start.water] ++ ([.int .i64 x.d.start.colour] ++ [.int .i64 x.d.start.heat])) ++ [c1]))),rfl,⟨c0,rfl,Cs.1 h0⟩,⟨[.int .i64 x.d.soak],([.int .i64 x.d.brittle] ++ (([.int .i64 x.d.start.water] ++ ([.int .i64 x.d.start.colour] ++ [.int .i64 x.d.start.heat])) ++ [c1])),rfl,⟨rfl,h1⟩,⟨[.int .i64 x.d.brittle],(([.int .i64 x.d.start.water] ++ ([.int .i64 x.d.start.colour] ++ [.int .i64 x.d.start.heat])) ++ [c1]),rfl,⟨rfl,h2⟩,⟨([.int .i64 x.d.start.water] ++ ([.int .i64 x.d.start.colour] ++ [.int .i64 x.d.start.heat])),[c1],rfl,⟨[.int .i64 x.d.start.water],([.int .i64 x.d.start.colour] ++ [.int .i64 x.d.start.heat]),rfl,⟨rfl,h3⟩,⟨[.int .i64 x.d.start.colour],[.int .i64 x.d.start.heat],rfl,⟨rfl,h4⟩,⟨rfl,h5⟩⟩⟩,⟨c1,rfl,Cs.1 h6⟩⟩⟩⟩⟩,⟨c2,rfl,Cs.1 h7⟩⟩,rfl⟩
theorem L2c:GoTy Tryz.prog 152 DryHeat:=⟨⟨_,Tryz.underlying152,rfl⟩,⟨_,Ab Tryz.typeInfo152,rfl⟩⟩
theorem L0o:GoTy Tryz.prog 56 DryState:=⟨⟨_,Tryz.underlying56,rfl⟩,⟨_,Ab Tryz.typeInfo56,rfl⟩⟩
theorem L0u:GoTy Tryz.prog 155 DryStep:=⟨⟨_,Tryz.underlying155,rfl⟩,⟨_,Ab Tryz.typeInfo155,rfl⟩⟩
theorem L0t:GoTy Tryz.prog 59 Drying:=⟨⟨_,Tryz.underlying59,rfl⟩,⟨_,Ab Tryz.typeInfo59,rfl⟩⟩
theorem L2w:GoTy Tryz.prog 165 DWindow:=⟨⟨_,Tryz.underlying165,rfl⟩,⟨_,Ab Tryz.typeInfo165,rfl⟩⟩
theorem L2k:GoTy Tryz.prog 167 Stage:=⟨⟨_,Tryz.underlying167,rfl⟩,⟨_,Ab Tryz.typeInfo167,rfl⟩⟩
theorem L0k:GoTy Tryz.prog 54 (List DryHeat):=⟨⟨_,Tryz.underlying54,rfl⟩,⟨_,Ab Tryz.typeInfo54,rfl⟩⟩
theorem L0p:GoTy Tryz.prog 57 (List DryStep):=⟨⟨_,Tryz.underlying57,rfl⟩,⟨_,Ab Tryz.typeInfo57,rfl⟩⟩
theorem L2d:GoTy Tryz.prog 168 (List Stage):=⟨⟨_,Tryz.underlying168,rfl⟩,⟨_,Ab Tryz.typeInfo168,rfl⟩⟩
theorem L8h:GoTy Tryz.prog 157 (Ptr Stove):=⟨⟨_,Tryz.underlying157,rfl⟩,⟨_,Ab Tryz.typeInfo157,rfl⟩⟩
def L8j:List Value:=[.int .i64 0,.int .i64 0]
theorem L8l:Fw Tryz.prog 152 (.agg #[.int .i64 0,.int .i64 0]):=⟨_,Ab Tryz.typeInfo152,rfl⟩
def L6b:List Value:=[.int .i64 0,.int .i64 0,.int .i64 0]
theorem L2x:Fw Tryz.prog 56 (.agg #[.int .i64 0,.int .i64 0,.int .i64 0]):=⟨_,Ab Tryz.typeInfo56,rfl⟩
def L6c:List Value:=[.int .i64 0,.int .i64 0,.bool false,.int .i64 0,.int .i64 0,.int .i64 0]
theorem L6d:Fw Tryz.prog 155 (.agg #[.int .i64 0,.int .i64 0,.bool false,.int .i64 0,.int .i64 0,.int .i64 0]):=⟨_,Ab Tryz.typeInfo155,rfl⟩
def L9x:List Value:=[.int .i64 0,.int .i64 0,.bool false,.int .i64 0,.int .i64 0,.int .i64 0]
theorem M0a:Fw Tryz.prog 165 (.agg #[.int .i64 0,.int .i64 0,.bool false,.int .i64 0,.int .i64 0,.int .i64 0]):=⟨_,Ab Tryz.typeInfo165,rfl⟩
def L8k:List Value:=[.int .i64 0,.int .i64 0,.bool false,.int .i64 0,.int .i64 0,.int .i64 0,.int .i64 0]
theorem L6e:Fw Tryz.prog 167 (.agg #[.int .i64 0,.int .i64 0,.bool false,.int .i64 0,.int .i64 0,.int .i64 0,.int .i64 0]):=⟨_,Ab Tryz.typeInfo167,rfl⟩
def L9y:List Value:=[.slice none 0 0,.int .i64 0,.int .i64 0,.int .i64 0,.int .i64 0,.int .i64 0,.slice none 0 0,.slice none 0 0]
theorem M0b:Fw Tryz.prog 170 (.agg #[.slice none 0 0,.int .i64 0,.int .i64 0,.int .i64 0,.int .i64 0,.int .i64 0,.slice none 0 0,.slice none 0 0]):=⟨_,Ab Tryz.typeInfo170,rfl⟩
theorem L9z:Fw Tryz.prog 161 (.map none):=⟨_,Ab Tryz.typeInfo161,rfl⟩
end Go.Proofs.YtphgjjmlnkgghaaGreatDoor

namespace Go.Proofs.YtphgjjmlnkgghaaGreatDoor
open Go
def L0z (d:Drying) (i:Nat):Int:=match d.heats[i]? with | some h=>if inR h.dries 0 1000 && inR h.burns 0 1000 then 0 else 1 | none=>0
def L0n (d:Drying) (s:DryState):Int:=if inR s.water 0 5000 && inR s.colour 0 1000 then (if inR s.heat 0 ((d.heats.length:Int) - 1) then 0 else 6) else 1
def L0w (d:Drying) (i:Nat):Int:=match d.steps[i]? with | some x=>if Ef x.damp 0 3 && Ef x.water 0 5000 && inR x.colour 0 1000 then 0 else 1 | none=>0
def L0v (d:Drying):Int:=if inR (d.heats.length:Int) 1 4 then orF (Hl d.heats.length (L0z d)) (if inR d.soak 0 1000 && inR d.brittle 0 5000 then orF (L0n d d.start) (if (d.steps.length:Int) > 5 then 2 else Hl d.steps.length (L0w d)) else 1) else 2
/-- What is so of a drying. -/
structure DryOk (d:Drying):Prop where
  n1:1 ≤ d.heats.length
  n4:d.heats.length ≤ 4
  heat:∀ (i:Nat) (h:DryHeat),d.heats[i]? = some h→(0 ≤ h.dries∧h.dries ≤ 1000)∧(0 ≤ h.burns∧h.burns ≤ 1000)
  soak:0 ≤ d.soak∧d.soak ≤ 1000
  brittle:0 ≤ d.brittle∧d.brittle ≤ 5000
  start:(0 ≤ d.start.water∧d.start.water ≤ 5000)∧(0 ≤ d.start.colour∧d.start.colour ≤ 1000)∧(0 ≤ d.start.heat∧d.start.heat ≤ (d.heats.length:Int) - 1)
  n5:d.steps.length ≤ 5
  step:∀ (i:Nat) (x:DryStep),d.steps[i]? = some x→(0 ≤ x.damp.low∧x.damp.low ≤ x.damp.high∧x.damp.high ≤ 3)∧(0 ≤ x.water.low∧x.water.low ≤ x.water.high∧x.water.high ≤ 5000)∧(0 ≤ x.colour∧x.colour ≤ 1000)
theorem L3i {d:Drying} (h:L0v d = 0):DryOk d:=by
  unfold L0v at h
  split at h
  · rename_i hn
    have hn:=Fz.1 hn
    rw [Jx,Fx] at h
    obtain ⟨h1,h⟩:=h
    split at h
    · rename_i hs
      rw [Bool.and_eq_true,Fz,Fz] at hs
      rw [Jx] at h
      obtain ⟨h2,h⟩:=h
      split at h
      · cases h
      · rename_i h5
        rw [Fx] at h
        refine ⟨by omega,by omega,fun i x hx=>?_,hs.1,hs.2,?_,by omega,fun i x hx=>?_⟩
        · have:=h1 i (List.getElem?_eq_some_iff.1 hx).1
          simp only [L0z,hx] at this
          split at this
          · rename_i hb; rwa [Bool.and_eq_true,Fz,Fz] at hb
          · cases this
        · unfold L0n at h2
          split at h2
          · rename_i hb
            rw [Bool.and_eq_true,Fz,Fz] at hb
            split at h2
            · rename_i hc; exact ⟨hb.1,hb.2,Fz.1 hc⟩
            · cases h2
          · cases h2
        · have:=h i (List.getElem?_eq_some_iff.1 hx).1
          simp only [L0w,hx] at this
          split at this
          · rename_i hb
            rw [Bool.and_eq_true,Bool.and_eq_true,Re,Re,Fz] at hb
            exact ⟨hb.1.1,hb.1.2,hb.2⟩
          · cases this
    · cases h
  · cases h
def L1j (n:Int) (tended:Bool) (was heat:Int):Bool:=inR heat 0 (n - 1) && (heat == was || (tended && (heat == was + 1 || heat == was - 1)))
def L2b (d:Drying) (i:Nat):Bool:=match d.steps[i]? with | some x=>x.tended | none=>false
/-- The heat before a step of a plan. -/
def L5n (d:Drying) (plan:List Int) (i:Nat):Int:=if i = 0 then d.start.heat else plan.getD (i - 1) 0
def L1v (d:Drying) (plan:List Int) (i:Nat):Int:=if inR (plan.getD i 0) 0 ((d.heats.length:Int) - 1) then (if L1j (d.heats.length:Int) (L2b d i) (L5n d plan i) (plan.getD i 0) then 0 else 7) else 6
def L1k (d:Drying) (plan:List Int):Int:=if (plan.length:Int) = (d.steps.length:Int) then Hl plan.length (L1v d plan) else 2
/-- A plan,as it is chosen. -/
def L0s (d:Drying) (picks:List UH):Nat→Int
  | 0=>d.start.heat
  | i + 1=>if L1j (d.heats.length:Int) (L2b d i) (L0s d picks i) (L0s d picks i + ((L0g picks (10 + i) % 3:Nat):Int) - 1) then L0s d picks i + ((L0g picks (10 + i) % 3:Nat):Int) - 1 else L0s d picks i
def L0y (d:Drying) (picks:List UH) (n:Nat):List Int:=(List.range n).map fun i=>L0s d picks (i + 1)
theorem L1s {d:Drying} {picks:List UH} (ok:DryOk d):∀ i,0 ≤ L0s d picks i∧L0s d picks i ≤ (d.heats.length:Int) - 1
  | 0=>ok.start.2.2
  | i + 1=>by
    unfold L0s
    split
    · rename_i h
      unfold L1j at h
      rw [Bool.and_eq_true,Fz] at h
      exact h.1
    · exact L1s ok i
theorem L5j {d:Drying} {picks:List UH} {n i:Nat} (h:i < n):(L0y d picks n).getD i 0 = L0s d picks (i + 1):=by
  rw [List.getD_eq_getElem?_getD]
  unfold L0y
  rw [List.getElem?_map,List.getElem?_range h]; rfl
theorem L9c {d:Drying} {picks:List UH} (ok:DryOk d):L1k d (L0y d picks d.steps.length) = 0:=by
  unfold L1k
  rw [if_pos (by simp [L0y]),Fx]
  intro i hi
  have hl:(L0y d picks d.steps.length).length = d.steps.length:=by simp [L0y]
  rw [hl] at hi
  unfold L1v
  rw [L5j hi]
  have h1:=L1s (picks:=picks) ok (i + 1)
  rw [if_pos (Fz.2 h1)]
  have hw:L5n d (L0y d picks d.steps.length) i = L0s d picks i:=by
    unfold L5n
    cases i with
    | zero=>rfl
    | succ j=>rw [if_neg (by omega),show j + 1 - 1 = j by omega,L5j (by omega)]
  rw [hw]
  refine if_pos ?_
  show L1j _ _ _ (if L1j _ _ _ _ = true then _ else _) = true
  split
  · rename_i h; exact h
  · unfold L1j
    rw [Bool.and_eq_true,Fz]
    exact ⟨L1s ok i,by simp⟩
def L2p (d:Drying) (i:Int):DryHeat:=d.heats.getD i.toNat ⟨0,0⟩
def L3x (d:Drying) (w heat damp:Int):Int:=(w * max 0 ((L2p d heat).dries - damp * d.soak)).tdiv 1000
def L0f (d:Drying) (s:DryState) (heat damp:Int):DryState :=
  ⟨s.water - L3x d s.water heat damp,if s.water - L3x d s.water heat damp < d.brittle then s.colour - (s.colour * (L2p d heat).burns).tdiv 1000 else s.colour,heat⟩
def L2t (d:Drying) (s:DryState):Prop:=(0 ≤ s.water∧s.water ≤ d.start.water)∧(0 ≤ s.colour∧s.colour ≤ 1000)∧(0 ≤ s.heat∧s.heat ≤ (d.heats.length:Int) - 1)
theorem L6o {w x:Int} (hw:0 ≤ w) (hx:0 ≤ x∧x ≤ 1000):0 ≤ (w * x).tdiv 1000∧(w * x).tdiv 1000 ≤ w:=by
  have h0:0 ≤ w * x:=Int.mul_nonneg hw hx.1
  rw [Int.tdiv_eq_ediv_of_nonneg h0]
  have h1:w * x ≤ w * 1000:=Int.mul_le_mul_of_nonneg_left hx.2 hw
  omega
theorem L5g {d:Drying} (ok:DryOk d) {i:Int} (h:0 ≤ i∧i ≤ (d.heats.length:Int) - 1):(0 ≤ (L2p d i).dries∧(L2p d i).dries ≤ 1000)∧(0 ≤ (L2p d i).burns∧(L2p d i).burns ≤ 1000):=by
  have hx:d.heats[i.toNat]? = some d.heats[i.toNat]:=List.getElem?_eq_getElem (by omega)
  unfold L2p
  rw [List.getD_eq_getElem?_getD,hx]
  exact ok.heat _ _ hx
theorem L8y {d:Drying} (ok:DryOk d) {w heat damp:Int} (hw:0 ≤ w) (hh:0 ≤ heat∧heat ≤ (d.heats.length:Int) - 1) (hd:0 ≤ damp):0 ≤ L3x d w heat damp∧L3x d w heat damp ≤ w:=by
  have h1:=L5g ok hh
  have h2:=Int.mul_nonneg hd ok.soak.1
  exact L6o hw (by omega)
theorem L6m {d:Drying} (ok:DryOk d) {s:DryState} (hs:L2t d s) {heat damp:Int} (hh:0 ≤ heat∧heat ≤ (d.heats.length:Int) - 1) (hd:0 ≤ damp):L2t d (L0f d s heat damp):=by
  have h1:=L8y ok (w:=s.water) hs.1.1 hh hd
  have h2:=L5g ok hh
  have h3:=L6o (w:=s.colour) hs.2.1.1 h2.2
  unfold L2t L0f
  have:=hs.1
  have:=hs.2.1
  simp only
  refine ⟨by omega,?_,hh⟩
  split <;> omega
/-- The key of a state. -/
def stK (s:DryState):List Int:=[s.water,s.colour,s.heat]
theorem L6q {s t:DryState} (h:stK s = stK t):s = t:=by
  cases s; cases t
  unfold stK at h
  simp only [List.cons.injEq,and_true] at h
  obtain ⟨rfl,rfl,rfl⟩:=h
  rfl
/-- An air,as it is chosen. -/
def L3r (x:Span) (b:Nat):Int:=x.low + (b:Int).tmod (x.high - x.low + 1)
def L1g (d:Drying) (i:Nat):Span:=match d.steps[i]? with | some x=>x.damp | none=>⟨0,0⟩
def L1y (d:Drying) (picks:List UH) (n:Nat):List Int:=(List.range n).map fun i=>L3r (L1g d i) (L0g picks i)
theorem L6f {x:Span} {b:Nat} (h:x.low ≤ x.high):x.low ≤ L3r x b∧L3r x b ≤ x.high:=by
  have h1:0 ≤ (b:Int).tmod (x.high - x.low + 1):=Int.tmod_nonneg _ (by omega)
  have h2:(b:Int).tmod (x.high - x.low + 1) < x.high - x.low + 1:=Int.tmod_lt_of_pos _ (by omega)
  unfold L3r; omega
theorem L8m {d:Drying} {picks:List UH} {n i:Nat} (h:i < n):(L1y d picks n).getD i 0 = L3r (L1g d i) (L0g picks i):=by
  rw [List.getD_eq_getElem?_getD]
  unfold L1y
  rw [List.getElem?_map,List.getElem?_range h]; rfl
/-- What really is so after so many steps. -/
def L1r (d:Drying) (plan air:List Int):Nat→DryState
  | 0=>d.start
  | i + 1=>L0f d (L1r d plan air i) (plan.getD i 0) (air.getD i 0)
def L1i (d:Drying) (plan air:List Int) (n:Nat):List DryState:=(List.range n).map fun i=>L1r d plan air (i + 1)
structure AirOk (d:Drying) (air:List Int):Prop where
  len:air.length = d.steps.length
  at_:∀ i,i < d.steps.length→(L1g d i).low ≤ air.getD i 0∧air.getD i 0 ≤ (L1g d i).high
theorem L9j {d:Drying} {picks:List UH} (ok:DryOk d):AirOk d (L1y d picks d.steps.length):=⟨by simp [L1y],fun i hi=>by
  rw [L8m hi]
  have hx:d.steps[i]? = some d.steps[i]:=List.getElem?_eq_getElem hi
  have:=(ok.step i _ hx).1
  unfold L1g; rw [hx]
  refine L6f ?_
  simp only
  omega⟩
theorem L1z {d:Drying} {plan:List Int} (h:L1k d plan = 0):plan.length = d.steps.length∧∀ i,i < plan.length→0 ≤ plan.getD i 0∧plan.getD i 0 ≤ (d.heats.length:Int) - 1:=by
  unfold L1k at h
  split at h
  · rename_i hl
    rw [Fx] at h
    refine ⟨by omega,fun i hi=>?_⟩
    have:=h i hi
    unfold L1v at this
    split at this
    · rename_i hb; exact Fz.1 hb
    · cases this
  · cases h
theorem L6j {d:Drying} (ok:DryOk d) {i:Nat} (hi:i < d.steps.length):0 ≤ (L1g d i).low∧(L1g d i).low ≤ (L1g d i).high∧(L1g d i).high ≤ 3:=by
  have hx:d.steps[i]? = some d.steps[i]:=List.getElem?_eq_getElem hi
  unfold L1g; rw [hx]; exact (ok.step i _ hx).1
theorem L6p {d:Drying} (ok:DryOk d) {plan air:List Int} (hp:L1k d plan = 0) (ha:AirOk d air):∀ i,i ≤ d.steps.length→L2t d (L1r d plan air i)
  | 0,_=>by have:=ok.start; exact ⟨by unfold L1r; omega,this.2.1,this.2.2⟩
  | i + 1,h=>by
    have h1:=L6p ok hp ha i (by omega)
    obtain ⟨h2,h3⟩:=L1z hp
    have h4:=ha.at_ i (by omega)
    have h5:=L6j ok (show i < d.steps.length by omega)
    exact L6m ok h1 (h3 i (by omega)) (by omega)
end Go.Proofs.YtphgjjmlnkgghaaGreatDoor

namespace Go.Proofs.YtphgjjmlnkgghaaGreatDoor
set_option maxHeartbeats 1000000
open Go
set_option maxRecDepth 100000 in
theorem L7h {mn:Bool} {X:Frame→List Frame→Ro→Own→Cy→Prop} {ρ:Ro} {σ:Own} {d:Drying} {vd:Value} (rd:Val ρ vd d):CallsH (CX mn X) 16 #[vd] ρ σ (fun w ρ' σ'=>ρ' = ρ∧σ' = σ∧∃ b:Bool,w = .bool b):=by
 refine Bh (n:=13) (args:=[vd]) [2] Tryz.func16 rfl rfl rfl rfl fun Q hret hnor=>?_
 refine w_q rfl rfl fun K1 k1=>?_
 refine Arv (Eb (v:=vd) rfl fun k2=>?_)
 refine Bb (a:=d) rd fun ρ2 l2 r2=>?_
 refine l_v (Cp (v:=(.bool (false))) rfl) ?_
 refine Arx rfl rfl k1 fun K3 k3=>?_
 refine Arw (Ay Drying.f_heats Tryz.underlying59 rfl rfl L0k (by decide) rfl r2) fun v4 r4=>?_
 refine Arw (Ax L0k rfl r4) fun v5 r5=>?_
 have g6:=Val.len r5
 refine l_v (Ci (el:=152) Tryz.underlying54 rfl r5) ?_
 refine l_v (Gl rfl rfl) ?_
 refine l_v (Ah (v:=(.bool (decide (((d.heats.length:Nat):Int) > 40)))) rfl) ?_
 refine Cn (decide (((d.heats.length:Nat):Int) > 40)) (fun b7=>?_) (fun b7=>?_)
 ·have q7:=of_decide_eq_true b7
  refine Ap (Bl rfl rfl rfl b7) ?_
  refine Ap (Bl rfl rfl rfl b7) ?_
  refine Ap (Bl rfl rfl rfl b7) ?_
  refine Ap (Bl rfl rfl rfl b7) ?_
  refine l_v (Bt rfl b7 (v:=(.bool (true))) rfl) ?_
  refine l_v (Cp (v:=(.bool (true))) rfl) ?_
  refine l_k k3 ?_
  refine Aj (Asf l2) ?_
  refine Aq ?_
  refine hret _ _ _ ?_
  exact ⟨rfl,rfl,_,rfl⟩
 have q7:=of_decide_eq_false b7
 refine Ak (Ar rfl rfl rfl b7) (Ay Drying.f_steps Tryz.underlying59 rfl rfl L0p (by decide) rfl r2) fun v8 r8=>?_
 refine Ak (Ar rfl rfl rfl b7) (Ax L0p rfl r8) fun v9 r9=>?_
 have g10:=Val.len r9
 refine Aa (Ar rfl rfl rfl b7) (Ci (el:=155) Tryz.underlying57 rfl r9) ?_
 refine Aa (Ar rfl rfl rfl b7) (Gl rfl rfl) ?_
 refine l_v (Bn rfl b7 (v:=(.bool (decide (((d.steps.length:Nat):Int) > 40)))) rfl) ?_
 refine l_v (Cp (v:=(.bool (decide (((d.steps.length:Nat):Int) > 40)))) rfl) ?_
 refine l_k k3 ?_
 refine Aj (Asf l2) ?_
 refine Aq ?_
 refine hret _ _ _ ?_
 exact ⟨rfl,rfl,_,rfl⟩
set_option maxRecDepth 100000 in
theorem L5q {mn:Bool} {X:Frame→List Frame→Ro→Own→Cy→Prop} {ρ:Ro} {σ:Own} {d:Drying} {vd vs:Value} {s:DryState} (rd:Val ρ vd d) (rs:Val ρ vs s):CallsH (CX mn X) 57 #[vd,vs] ρ σ (fun w ρ' σ'=>ρ' = ρ∧σ' = σ∧w = (iV (L0n d s))):=by
 refine Bh (n:=23) (args:=[vd,vs]) [4] Tryz.func57 rfl rfl rfl rfl fun Q hret hnor=>?_
 refine w_q rfl rfl fun K1 k1=>?_
 refine Arv (Eb (v:=vd) rfl fun k2=>?_)
 refine Bb (a:=d) rd fun ρ2 l2 r2=>?_
 replace rs:=Asj l2 rs
 refine Arv (Eb (v:=vs) rfl fun k3=>?_)
 refine Bb (a:=s) rs fun ρ3 l3 r3=>?_
 replace r2:=At.mono l3 r2
 refine l_v (Cp (v:=(iV (0))) rfl) ?_
 refine Ary rfl rfl k1 fun K4 K5 k4 k5=>?_
 refine Arw (Ay DryState.f_water Tryz.underlying56 rfl rfl ty3 (by decide) rfl r3) fun v6 r6=>?_
 have ⟨g7a,g7b⟩:=At.rng r6
 refine l_v (Bc ty3 rfl r6) ?_
 refine Arv (Bm (L2n) Tryz.func52 rfl rfl ⟨rfl,rfl,rfl,trivial⟩ ?_)
 refine l_v (Iy rfl) ?_
 refine l_v (Ah (v:=(.bool (!(inR s.water 0 5000)))) rfl) ?_
 refine Cn (!(inR s.water 0 5000)) (fun b8=>?_) (fun b8=>?_)
 ·have b9:=not_eq_t b8
  have q9:=Tr.1 b9
  refine Ap (Bl rfl rfl rfl b8) ?_
  refine Ap (Bl rfl rfl rfl b8) ?_
  refine Ap (Bl rfl rfl rfl b8) ?_
  refine Ap (Bl rfl rfl rfl b8) ?_
  refine l_v (Bt rfl b8 (v:=(.bool (true))) rfl) ?_
  refine l_k k5 ?_
  refine Co rfl rfl ?_
  refine w_q rfl rfl fun K10 k10=>?_
  refine l_v (Cp (v:=(iV (1))) rfl) ?_
  refine l_k k10 ?_
  refine Aj (Asf (Asi l2 l3)) ?_
  refine Aq ?_
  refine hret _ _ _ ⟨rfl,rfl,Eq.trans (b:=(iV (1))) rfl ?_⟩
  simp only [L0n,b8,b9,Bool.true_and,Bool.false_and,Bool.and_true,Bool.and_false,Bool.true_or,Bool.false_or,Bool.or_true,Bool.or_false,Bool.not_true,Bool.not_false,if_true,Bool.false_eq_true,if_false]
 have b11:=not_eq_f b8
 have q11:=Fz.1 b11
 refine Ak (Ar rfl rfl rfl b8) (Ay DryState.f_colour Tryz.underlying56 rfl rfl ty3 (by decide) rfl r3) fun v12 r12=>?_
 have ⟨g13a,g13b⟩:=At.rng r12
 refine Aa (Ar rfl rfl rfl b8) (Bc ty3 rfl r12) ?_
 refine Ae (Ar rfl rfl rfl b8) (Bm (L2n) Tryz.func52 rfl rfl ⟨rfl,rfl,rfl,trivial⟩ ?_)
 refine Aa (Ar rfl rfl rfl b8) (Iy rfl) ?_
 refine l_v (Bn rfl b8 (v:=(.bool (!(inR s.colour 0 1000)))) rfl) ?_
 refine l_k k5 ?_
 refine As (t:=!(inR s.colour 0 1000)) rfl (fun b14=>?_) (fun b14=>?_)
 ·have b15:=not_eq_t b14
  have q15:=Tr.1 b15
  refine w_q rfl rfl fun K16 k16=>?_
  refine l_v (Cp (v:=(iV (1))) rfl) ?_
  refine l_k k16 ?_
  refine Aj (Asf (Asi l2 l3)) ?_
  refine Aq ?_
  refine hret _ _ _ ⟨rfl,rfl,Eq.trans (b:=(iV (1))) rfl ?_⟩
  simp only [L0n,b8,b11,b14,b15,Bool.true_and,Bool.false_and,Bool.and_true,Bool.and_false,Bool.true_or,Bool.false_or,Bool.or_true,Bool.or_false,Bool.not_true,Bool.not_false,if_true,Bool.false_eq_true,if_false]
 have b17:=not_eq_f b14
 have q17:=Fz.1 b17
 refine Al ?_
 apply k4
 refine Asb rfl rfl fun K18 K19 k18 k19=>?_
 refine Arw (Ay DryState.f_heat Tryz.underlying56 rfl rfl ty3 (by decide) rfl r3) fun v20 r20=>?_
 have ⟨g21a,g21b⟩:=At.rng r20
 refine l_v (Bc ty3 rfl r20) ?_
 refine Arw (Ay Drying.f_heats Tryz.underlying59 rfl rfl L0k (by decide) rfl r2) fun v22 r22=>?_
 refine Arw (Ax L0k rfl r22) fun v23 r23=>?_
 have g24:=Val.len r23
 refine l_v (Ci (el:=152) Tryz.underlying54 rfl r23) ?_
 refine l_v (Ou rfl rfl (z:=(((d.heats.length:Nat):Int) - 1)) (Bo (by first | rfl | omega | (push_cast; rfl)) (by omega) (by omega))) ?_
 refine Arv (Bm (L2n) Tryz.func52 rfl rfl ⟨rfl,rfl,rfl,trivial⟩ ?_)
 refine l_v (Iy rfl) ?_
 refine l_k k19 ?_
 refine As (t:=!(inR s.heat 0 ((((d.heats.length:Nat):Int) - 1)))) rfl (fun b25=>?_) (fun b25=>?_)
 ·have b26:=not_eq_t b25
  have q26:=Tr.1 b26
  refine w_q rfl rfl fun K27 k27=>?_
  refine l_v (Cp (v:=(iV (6))) rfl) ?_
  refine l_k k27 ?_
  refine Aj (Asf (Asi l2 l3)) ?_
  refine Aq ?_
  refine hret _ _ _ ⟨rfl,rfl,Eq.trans (b:=(iV (6))) rfl ?_⟩
  simp only [L0n,b8,b11,b14,b17,b25,b26,Bool.true_and,Bool.false_and,Bool.and_true,Bool.and_false,Bool.true_or,Bool.false_or,Bool.or_true,Bool.or_false,Bool.not_true,Bool.not_false,if_true,Bool.false_eq_true,if_false]
 have b28:=not_eq_f b25
 have q28:=Fz.1 b28
 refine Al ?_
 apply k18
 refine w_q rfl rfl fun K29 k29=>?_
 refine l_v (Cp (v:=(iV (0))) rfl) ?_
 refine l_k k29 ?_
 refine Aj (Asf (Asi l2 l3)) ?_
 refine Aq ?_
 refine hret _ _ _ ⟨rfl,rfl,Eq.trans (b:=(iV (0))) rfl ?_⟩
 simp only [L0n,b8,b11,b14,b17,b25,b28,Bool.true_and,Bool.false_and,Bool.and_true,Bool.and_false,Bool.true_or,Bool.false_or,Bool.or_true,Bool.or_false,Bool.not_true,Bool.not_false,if_true,Bool.false_eq_true,if_false]
set_option maxRecDepth 100000 in
theorem L7f {mn:Bool} {X:Frame→List Frame→Ro→Own→Cy→Prop} {ρ:Ro} {σ:Own} {d:Drying} {vd:Value} (rd:Val ρ vd d):CallsH (CX mn X) 17 #[vd] ρ σ (fun w ρ' σ'=>ρ' = ρ∧σ' = σ∧w = (iV (L0v d))):=by
 refine Bh (n:=86) (args:=[vd]) [2] Tryz.func17 rfl rfl rfl rfl fun Q hret hnor=>?_
 refine w_q rfl rfl fun K1 k1=>?_
 refine Arv (Eb (v:=vd) rfl fun k2=>?_)
 refine Bb (a:=d) rd fun ρ2 l2 r2=>?_
 refine l_v (Cp (v:=(iV (0))) rfl) ?_
 refine Ary rfl rfl k1 fun K3 K4 k3 k4=>?_
 refine Arw (Ay Drying.f_heats Tryz.underlying59 rfl rfl L0k (by decide) rfl r2) fun v5 r5=>?_
 refine Arw (Ax L0k rfl r5) fun v6 r6=>?_
 have g7:=Val.len r6
 refine l_v (Ci (el:=152) Tryz.underlying54 rfl r6) ?_
 refine Arv (Bm (L2n) Tryz.func52 rfl rfl ⟨rfl,rfl,rfl,trivial⟩ ?_)
 refine l_v (Iy rfl) ?_
 refine l_k k4 ?_
 refine As (t:=!(inR (((d.heats.length:Nat):Int)) 1 4)) rfl (fun b8=>?_) (fun b8=>?_)
 ·have b9:=not_eq_t b8
  have q9:=Tr.1 b9
  refine w_q rfl rfl fun K10 k10=>?_
  refine l_v (Cp (v:=(iV (2))) rfl) ?_
  refine l_k k10 ?_
  refine Aj (Asf l2) ?_
  refine Aq ?_
  refine hret _ _ _ ⟨rfl,rfl,Eq.trans (b:=(iV (2))) rfl ?_⟩
  simp only [L0v,b8,b9,Bool.false_eq_true,if_false]
 have b11:=not_eq_f b8
 have q11:=Fz.1 b11
 refine Al ?_
 apply k3
 refine Asb rfl rfl fun K12 K13 k12 k13=>?_
 refine l_v (Cp (v:=(iV (0))) rfl) ?_
 refine l_k k13 ?_
 refine Ao ?_
 refine Cc (fun mm ee dd ρ' σ'=>∃ (i:Nat),(d.heats.length - i) = mm∧[] = dd∧ρ2 = ρ'∧σ = σ'∧ee 1 = (.pointer (some ⟨k2,0,none⟩))∧ee 3 = (iV ((i:Int)))∧(i ≤ d.heats.length)∧(∀ j,j < i→L0z d j = 0)∧True) (m:=_) ⟨0,rfl,rfl,rfl,rfl,rfl,rfl,(Nat.zero_le _),(fun j h=>absurd h (Nat.not_lt_zero _)),trivial⟩ ?_
 rintro m14 e14 _ _ _ ⟨i,rfl,rfl,rfl,rfl,h14_1,h14_3,p14_0,p14_1,_⟩
 refine Asb rfl rfl fun K15 K16 k15 k16=>?_
 refine l_v (Ah (v:=(iV ((i:Int)))) h14_3) ?_
 refine Arw (Ay Drying.f_heats Tryz.underlying59 rfl rfl L0k (by decide) h14_1 r2) fun v17 r17=>?_
 refine Arw (Ax L0k rfl r17) fun v18 r18=>?_
 have g19:=Val.len r18
 refine l_v (Ci (el:=152) Tryz.underlying54 rfl r18) ?_
 refine l_v (Da rfl rfl) ?_
 refine l_k k16 ?_
 refine As (t:=decide ((i:Int) < ((d.heats.length:Nat):Int))) rfl (fun b20=>?_) (fun b20=>?_)
 ·have q20:=of_decide_eq_true b20
  refine Al ?_
  apply k15
  refine Ai fun K21 k21=>?_
  refine Ao ?_
  refine w_q rfl rfl fun K22 k22=>?_
  refine Arw (Ay Drying.f_heats Tryz.underlying59 rfl rfl L0k (by decide) h14_1 r2) fun v23 r23=>?_
  refine Arw (Ax L0k rfl r23) fun v24 r24=>?_
  refine l_v (Ah (v:=(iV ((i:Int)))) h14_3) ?_
  obtain ⟨a26,ha26⟩:=Ed (xs:=d.heats) (i:=i) (by omega)
  refine Arw (Ch i Tryz.underlying54 L2c rfl r24 (q:=(i:Int)) rfl rfl ha26) fun v25 r25=>?_
  refine Arw (Ay DryHeat.f_dries Tryz.underlying152 rfl rfl ty3 (by decide) rfl r25) fun v27 r27=>?_
  have ⟨g28a,g28b⟩:=At.rng r27
  refine l_v (Bc ty3 rfl r27) ?_
  refine Arv (Bm (L2n) Tryz.func52 rfl rfl ⟨rfl,rfl,rfl,trivial⟩ ?_)
  refine l_v (Iy rfl) ?_
  refine l_v (Ah (v:=(.bool (!(inR a26.dries 0 1000)))) rfl) ?_
  refine Cn (!(inR a26.dries 0 1000)) (fun b29=>?_) (fun b29=>?_)
  ·have b30:=not_eq_t b29
   have q30:=Tr.1 b30
   refine Ap (Bl rfl rfl rfl b29) ?_
   refine Ap (Bl rfl rfl rfl b29) ?_
   refine Ap (Bl rfl rfl rfl b29) ?_
   refine Ap (Bl rfl rfl rfl b29) ?_
   refine Ap (Bl rfl rfl rfl b29) ?_
   refine Ap (Bl rfl rfl rfl b29) ?_
   refine Ap (Bl rfl rfl rfl b29) ?_
   refine Ap (Bl rfl rfl rfl b29) ?_
   refine l_v (Bt rfl b29 (v:=(.bool (true))) rfl) ?_
   refine l_k k22 ?_
   refine Co rfl rfl ?_
   refine w_q rfl rfl fun K31 k31=>?_
   refine l_v (Cp (v:=(iV (1))) rfl) ?_
   refine l_k k31 ?_
   refine Aj (Asf l2) ?_
   refine Aq ?_
   refine hret _ _ _ ⟨rfl,rfl,Eq.trans (b:=(iV (1))) rfl ?_⟩
   rw [L0v,if_pos (Fz.2 q11)]
   have hf:L0z d i = 1:=by simp [L0z,ha26,b8,b11,b20,b29,b30,q11,q20,q30]
   rw [Db p14_1 (by omega) hf (by omega),Ry (by omega)]
  have b32:=not_eq_f b29
  have q32:=Fz.1 b32
  refine Ak (Ar rfl rfl rfl b29) (Ay Drying.f_heats Tryz.underlying59 rfl rfl L0k (by decide) h14_1 r2) fun v33 r33=>?_
  refine Ak (Ar rfl rfl rfl b29) (Ax L0k rfl r33) fun v34 r34=>?_
  refine Aa (Ar rfl rfl rfl b29) (Ah (v:=(iV ((i:Int)))) h14_3) ?_
  refine Ak (Ar rfl rfl rfl b29) (Ch i Tryz.underlying54 L2c rfl r34 (q:=(i:Int)) rfl rfl ha26) fun v35 r35=>?_
  refine Ak (Ar rfl rfl rfl b29) (Ay DryHeat.f_burns Tryz.underlying152 rfl rfl ty3 (by decide) rfl r35) fun v36 r36=>?_
  have ⟨g37a,g37b⟩:=At.rng r36
  refine Aa (Ar rfl rfl rfl b29) (Bc ty3 rfl r36) ?_
  refine Ae (Ar rfl rfl rfl b29) (Bm (L2n) Tryz.func52 rfl rfl ⟨rfl,rfl,rfl,trivial⟩ ?_)
  refine Aa (Ar rfl rfl rfl b29) (Iy rfl) ?_
  refine l_v (Bn rfl b29 (v:=(.bool (!(inR a26.burns 0 1000)))) rfl) ?_
  refine l_k k22 ?_
  refine As (t:=!(inR a26.burns 0 1000)) rfl (fun b38=>?_) (fun b38=>?_)
  ·have b39:=not_eq_t b38
   have q39:=Tr.1 b39
   refine w_q rfl rfl fun K40 k40=>?_
   refine l_v (Cp (v:=(iV (1))) rfl) ?_
   refine l_k k40 ?_
   refine Aj (Asf l2) ?_
   refine Aq ?_
   refine hret _ _ _ ⟨rfl,rfl,Eq.trans (b:=(iV (1))) rfl ?_⟩
   rw [L0v,if_pos (Fz.2 q11)]
   have hf:L0z d i = 1:=by simp [L0z,ha26,b8,b11,b20,b29,b32,b38,b39,q11,q20,q32,q39]
   rw [Db p14_1 (by omega) hf (by omega),Ry (by omega)]
  have b41:=not_eq_f b38
  have q41:=Fz.1 b41
  refine Al ?_
  apply k21
  refine Ag rfl rfl ?_
  refine l_v (Ah (v:=(iV ((i:Int)))) h14_3) ?_
  refine l_v (Br rfl rfl (z:=(((i + 1):Nat):Int)) (Bo (by first | rfl | omega | (push_cast; rfl)) (by omega) (by omega))) ?_
  refine l_v (Cp (v:=(iV ((((i + 1):Nat):Int)))) rfl) ?_
  apply Ac
  refine ⟨_,?_,((i + 1)),rfl,rfl,rfl,rfl,h14_1,rfl,(by omega),(Eg p14_1 (by simp [L0z,ha26,b8,b11,b20,b29,b32,b38,b41,q11,q20,q32,q41])),trivial⟩
  omega
 have q20:=of_decide_eq_false b20
 refine Bx ?_
 apply k12
 refine Asb rfl rfl fun K42 K43 k42 k43=>?_
 refine Arw (Ay Drying.f_soak Tryz.underlying59 rfl rfl ty3 (by decide) h14_1 r2) fun v44 r44=>?_
 have ⟨g45a,g45b⟩:=At.rng r44
 refine l_v (Bc ty3 rfl r44) ?_
 refine Arv (Bm (L2n) Tryz.func52 rfl rfl ⟨rfl,rfl,rfl,trivial⟩ ?_)
 refine l_v (Iy rfl) ?_
 refine l_v (Ah (v:=(.bool (!(inR d.soak 0 1000)))) rfl) ?_
 refine Cn (!(inR d.soak 0 1000)) (fun b46=>?_) (fun b46=>?_)
 ·have b47:=not_eq_t b46
  have q47:=Tr.1 b47
  refine Ap (Bl rfl rfl rfl b46) ?_
  refine Ap (Bl rfl rfl rfl b46) ?_
  refine Ap (Bl rfl rfl rfl b46) ?_
  refine Ap (Bl rfl rfl rfl b46) ?_
  refine l_v (Bt rfl b46 (v:=(.bool (true))) rfl) ?_
  refine l_k k43 ?_
  refine Co rfl rfl ?_
  refine w_q rfl rfl fun K48 k48=>?_
  refine l_v (Cp (v:=(iV (1))) rfl) ?_
  refine l_k k48 ?_
  refine Aj (Asf l2) ?_
  refine Aq ?_
  refine hret _ _ _ ⟨rfl,rfl,Eq.trans (b:=(iV (1))) rfl ?_⟩
  rw [L0v,if_pos (Fz.2 q11)]
  rw [Fb fun j hj=>p14_1 j (by omega),Gr rfl]
  rw [if_neg (by simp [b8,b11,b20,b46,b47,q11,q20,q47])]
 have b49:=not_eq_f b46
 have q49:=Fz.1 b49
 refine Ak (Ar rfl rfl rfl b46) (Ay Drying.f_brittle Tryz.underlying59 rfl rfl ty3 (by decide) h14_1 r2) fun v50 r50=>?_
 have ⟨g51a,g51b⟩:=At.rng r50
 refine Aa (Ar rfl rfl rfl b46) (Bc ty3 rfl r50) ?_
 refine Ae (Ar rfl rfl rfl b46) (Bm (L2n) Tryz.func52 rfl rfl ⟨rfl,rfl,rfl,trivial⟩ ?_)
 refine Aa (Ar rfl rfl rfl b46) (Iy rfl) ?_
 refine l_v (Bn rfl b46 (v:=(.bool (!(inR d.brittle 0 5000)))) rfl) ?_
 refine l_k k43 ?_
 refine As (t:=!(inR d.brittle 0 5000)) rfl (fun b52=>?_) (fun b52=>?_)
 ·have b53:=not_eq_t b52
  have q53:=Tr.1 b53
  refine w_q rfl rfl fun K54 k54=>?_
  refine l_v (Cp (v:=(iV (1))) rfl) ?_
  refine l_k k54 ?_
  refine Aj (Asf l2) ?_
  refine Aq ?_
  refine hret _ _ _ ⟨rfl,rfl,Eq.trans (b:=(iV (1))) rfl ?_⟩
  rw [L0v,if_pos (Fz.2 q11)]
  rw [Fb fun j hj=>p14_1 j (by omega),Gr rfl]
  rw [if_neg (by simp [b8,b11,b20,b46,b49,b52,b53,q11,q20,q49,q53])]
 have b55:=not_eq_f b52
 have q55:=Fz.1 b55
 refine Al ?_
 apply k42
 refine Asb rfl rfl fun K56 K57 k56 k57=>?_
 refine Arw (Ax L0t h14_1 r2) fun v58 r58=>?_
 refine Arw (Ay Drying.f_start Tryz.underlying59 rfl rfl L0o (by decide) h14_1 r2) fun v59 r59=>?_
 refine Arw (Ax L0o rfl r59) fun v60 r60=>?_
 refine Arv (Bm (L5q r58 r60) Tryz.func57 rfl rfl ⟨rfl,rfl,trivial⟩ ?_)
 refine l_v (Cp (v:=(iV (L0n d d.start))) rfl) ?_
 refine Arx rfl rfl k57 fun K61 k61=>?_
 refine l_v (Ah (v:=(iV (L0n d d.start))) rfl) ?_
 refine l_v (Dg rfl rfl) ?_
 refine l_k k61 ?_
 refine As (t:=L0n d d.start != 0) rfl (fun b62=>?_) (fun b62=>?_)
 ·have q62:=Ls b62
  refine w_q rfl rfl fun K63 k63=>?_
  refine l_v (Ah (v:=(iV (L0n d d.start))) rfl) ?_
  refine l_v (Cp (v:=(iV (L0n d d.start))) rfl) ?_
  refine l_k k63 ?_
  refine Aj (Asf l2) ?_
  refine Aq ?_
  refine hret _ _ _ ⟨rfl,rfl,Eq.trans (b:=(iV (L0n d d.start))) rfl ?_⟩
  rw [L0v,if_pos (Fz.2 q11)]
  rw [Fb fun j hj=>p14_1 j (by omega),Gr rfl]
  rw [if_pos (by simp [b8,b11,b20,b46,b49,b52,b55,b62,q11,q20,q49,q55,q62])]
  rw [Ry q62]
 have q62:=Jh b62
 refine Al ?_
 apply k56
 refine Asb rfl rfl fun K64 K65 k64 k65=>?_
 refine Arw (Ay Drying.f_steps Tryz.underlying59 rfl rfl L0p (by decide) h14_1 r2) fun v66 r66=>?_
 refine Arw (Ax L0p rfl r66) fun v67 r67=>?_
 have g68:=Val.len r67
 refine l_v (Ci (el:=155) Tryz.underlying57 rfl r67) ?_
 refine l_v (Gl rfl rfl) ?_
 refine l_k k65 ?_
 refine As (t:=decide (((d.steps.length:Nat):Int) > 5)) rfl (fun b69=>?_) (fun b69=>?_)
 ·have q69:=of_decide_eq_true b69
  refine w_q rfl rfl fun K70 k70=>?_
  refine l_v (Cp (v:=(iV (2))) rfl) ?_
  refine l_k k70 ?_
  refine Aj (Asf l2) ?_
  refine Aq ?_
  refine hret _ _ _ ⟨rfl,rfl,Eq.trans (b:=(iV (2))) rfl ?_⟩
  rw [L0v,if_pos (Fz.2 q11)]
  rw [Fb fun j hj=>p14_1 j (by omega),Gr rfl]
  rw [if_pos (by simp [b8,b11,b20,b46,b49,b52,b55,b62,b69,q11,q20,q49,q55,q62,q69])]
  rw [Gr q62]
  rw [if_pos (by omega)]
 have q69:=of_decide_eq_false b69
 refine Al ?_
 apply k64
 refine Asb rfl rfl fun K71 K72 k71 k72=>?_
 refine l_v (Cp (v:=(iV (0))) rfl) ?_
 refine l_k k72 ?_
 refine Ao ?_
 refine Cc (fun mm ee dd ρ' σ'=>∃ (k:Nat),(d.steps.length - k) = mm∧[] = dd∧ρ2 = ρ'∧σ = σ'∧ee 1 = (.pointer (some ⟨k2,0,none⟩))∧ee 5 = (iV ((k:Int)))∧(k ≤ d.steps.length)∧(∀ j,j < k→L0w d j = 0)∧True) (m:=_) ⟨0,rfl,rfl,rfl,rfl,h14_1,rfl,(Nat.zero_le _),(fun j h=>absurd h (Nat.not_lt_zero _)),trivial⟩ ?_
 rintro m73 e73 _ _ _ ⟨k,rfl,rfl,rfl,rfl,h73_1,h73_5,p73_0,p73_1,_⟩
 refine Asb rfl rfl fun K74 K75 k74 k75=>?_
 refine l_v (Ah (v:=(iV ((k:Int)))) h73_5) ?_
 refine Arw (Ay Drying.f_steps Tryz.underlying59 rfl rfl L0p (by decide) h73_1 r2) fun v76 r76=>?_
 refine Arw (Ax L0p rfl r76) fun v77 r77=>?_
 have g78:=Val.len r77
 refine l_v (Ci (el:=155) Tryz.underlying57 rfl r77) ?_
 refine l_v (Da rfl rfl) ?_
 refine l_k k75 ?_
 refine As (t:=decide ((k:Int) < ((d.steps.length:Nat):Int))) rfl (fun b79=>?_) (fun b79=>?_)
 ·have q79:=of_decide_eq_true b79
  refine Al ?_
  apply k74
  refine Ai fun K80 k80=>?_
  refine Ao ?_
  refine w_q rfl rfl fun K81 k81=>?_
  refine Arw (Ay Drying.f_steps Tryz.underlying59 rfl rfl L0p (by decide) h73_1 r2) fun v82 r82=>?_
  refine Arw (Ax L0p rfl r82) fun v83 r83=>?_
  refine l_v (Ah (v:=(iV ((k:Int)))) h73_5) ?_
  obtain ⟨a85,ha85⟩:=Ed (xs:=d.steps) (i:=k) (by omega)
  refine Arw (Ch k Tryz.underlying57 L0u rfl r83 (q:=(k:Int)) rfl rfl ha85) fun v84 r84=>?_
  refine Arw (Ax L0u rfl r84) fun v86 r86=>?_
  refine Arv (Ct L6d fun k87=>?_)
  refine Cx rfl (Dv (v:=v86) (a:=a85) (c:=L6c) L0u rfl rfl r86 rfl ?_)
  refine Bb (a:=a85) r86 fun ρ88 l88 r88=>?_
  refine Arx rfl rfl k81 fun K89 k89=>?_
  refine Arw (Ay DryStep.f_damp Tryz.underlying155 rfl rfl Mx (by decide) rfl r88) fun v90 r90=>?_
  refine Arw (Ax Mx rfl r90) fun v91 r91=>?_
  refine Arv (Bm (L2o r91) Tryz.func33 rfl rfl ⟨rfl,rfl,rfl,trivial⟩ ?_)
  refine l_v (Iy rfl) ?_
  refine l_v (Ah (v:=(.bool (!(Ef a85.damp 0 3)))) rfl) ?_
  refine Cn (!(Ef a85.damp 0 3)) (fun b92=>?_) (fun b92=>?_)
  ·have b93:=not_eq_t b92
   refine Ap (Bl rfl rfl rfl b92) ?_
   refine Ap (Bl rfl rfl rfl b92) ?_
   refine Ap (Bl rfl rfl rfl b92) ?_
   refine Ap (Bl rfl rfl rfl b92) ?_
   refine l_v (Bt rfl b92 (v:=(.bool (true))) rfl) ?_
   refine l_v (Ah (v:=(.bool (true))) rfl) ?_
   refine Ap (Bl rfl rfl rfl rfl) ?_
   refine Ap (Bl rfl rfl rfl rfl) ?_
   refine Ap (Bl rfl rfl rfl rfl) ?_
   refine Ap (Bl rfl rfl rfl rfl) ?_
   refine l_v (Bt rfl rfl (v:=(.bool (true))) rfl) ?_
   refine l_k k89 ?_
   refine Co rfl rfl ?_
   refine w_q rfl rfl fun K94 k94=>?_
   refine l_v (Cp (v:=(iV (1))) rfl) ?_
   refine l_k k94 ?_
   refine Aj (Asf (Asi l2 l88)) ?_
   refine Aq ?_
   refine hret _ _ _ ⟨rfl,rfl,Eq.trans (b:=(iV (1))) rfl ?_⟩
   rw [L0v,if_pos (Fz.2 q11)]
   rw [Fb fun j hj=>p14_1 j (by omega),Gr rfl]
   rw [if_pos (by simp [b8,b11,b20,b46,b49,b52,b55,b62,b69,b79,b92,b93,q11,q20,q49,q55,q62,q69,q79])]
   rw [Gr q62]
   rw [if_neg (by omega)]
   have hf:L0w d k = 1:=by simp [L0w,ha85,b8,b11,b20,b46,b49,b52,b55,b62,b69,b79,b92,b93,q11,q20,q49,q55,q62,q69,q79]
   rw [Db p73_1 (by omega) hf (by omega)]
  have b95:=not_eq_f b92
  refine Ak (Ar rfl rfl rfl b92) (Ay DryStep.f_water Tryz.underlying155 rfl rfl Mx (by decide) rfl r88) fun v96 r96=>?_
  refine Ak (Ar rfl rfl rfl b92) (Ax Mx rfl r96) fun v97 r97=>?_
  refine Ae (Ar rfl rfl rfl b92) (Bm (L2o r97) Tryz.func33 rfl rfl ⟨rfl,rfl,rfl,trivial⟩ ?_)
  refine Aa (Ar rfl rfl rfl b92) (Iy rfl) ?_
  refine l_v (Bn rfl b92 (v:=(.bool (!(Ef a85.water 0 5000)))) rfl) ?_
  refine l_v (Ah (v:=(.bool (!(Ef a85.water 0 5000)))) rfl) ?_
  refine Cn (!(Ef a85.water 0 5000)) (fun b98=>?_) (fun b98=>?_)
  ·have b99:=not_eq_t b98
   refine Ap (Bl rfl rfl rfl b98) ?_
   refine Ap (Bl rfl rfl rfl b98) ?_
   refine Ap (Bl rfl rfl rfl b98) ?_
   refine Ap (Bl rfl rfl rfl b98) ?_
   refine l_v (Bt rfl b98 (v:=(.bool (true))) rfl) ?_
   refine l_k k89 ?_
   refine Co rfl rfl ?_
   refine w_q rfl rfl fun K100 k100=>?_
   refine l_v (Cp (v:=(iV (1))) rfl) ?_
   refine l_k k100 ?_
   refine Aj (Asf (Asi l2 l88)) ?_
   refine Aq ?_
   refine hret _ _ _ ⟨rfl,rfl,Eq.trans (b:=(iV (1))) rfl ?_⟩
   rw [L0v,if_pos (Fz.2 q11)]
   rw [Fb fun j hj=>p14_1 j (by omega),Gr rfl]
   rw [if_pos (by simp [b8,b11,b20,b46,b49,b52,b55,b62,b69,b79,b92,b95,b98,b99,q11,q20,q49,q55,q62,q69,q79])]
   rw [Gr q62]
   rw [if_neg (by omega)]
   have hf:L0w d k = 1:=by simp [L0w,ha85,b8,b11,b20,b46,b49,b52,b55,b62,b69,b79,b92,b95,b98,b99,q11,q20,q49,q55,q62,q69,q79]
   rw [Db p73_1 (by omega) hf (by omega)]
  have b101:=not_eq_f b98
  refine Ak (Ar rfl rfl rfl b98) (Ay DryStep.f_colour Tryz.underlying155 rfl rfl ty3 (by decide) rfl r88) fun v102 r102=>?_
  have ⟨g103a,g103b⟩:=At.rng r102
  refine Aa (Ar rfl rfl rfl b98) (Bc ty3 rfl r102) ?_
  refine Ae (Ar rfl rfl rfl b98) (Bm (L2n) Tryz.func52 rfl rfl ⟨rfl,rfl,rfl,trivial⟩ ?_)
  refine Aa (Ar rfl rfl rfl b98) (Iy rfl) ?_
  refine l_v (Bn rfl b98 (v:=(.bool (!(inR a85.colour 0 1000)))) rfl) ?_
  refine l_k k89 ?_
  refine As (t:=!(inR a85.colour 0 1000)) rfl (fun b104=>?_) (fun b104=>?_)
  ·have b105:=not_eq_t b104
   have q105:=Tr.1 b105
   refine w_q rfl rfl fun K106 k106=>?_
   refine l_v (Cp (v:=(iV (1))) rfl) ?_
   refine l_k k106 ?_
   refine Aj (Asf (Asi l2 l88)) ?_
   refine Aq ?_
   refine hret _ _ _ ⟨rfl,rfl,Eq.trans (b:=(iV (1))) rfl ?_⟩
   rw [L0v,if_pos (Fz.2 q11)]
   rw [Fb fun j hj=>p14_1 j (by omega),Gr rfl]
   rw [if_pos (by simp [b8,b11,b20,b46,b49,b52,b55,b62,b69,b79,b92,b95,b98,b101,b104,b105,q11,q20,q49,q55,q62,q69,q79,q105])]
   rw [Gr q62]
   rw [if_neg (by omega)]
   have hf:L0w d k = 1:=by simp [L0w,ha85,b8,b11,b20,b46,b49,b52,b55,b62,b69,b79,b92,b95,b98,b101,b104,b105,q11,q20,q49,q55,q62,q69,q79,q105]
   rw [Db p73_1 (by omega) hf (by omega)]
  have b107:=not_eq_f b104
  have q107:=Fz.1 b107
  refine Al ?_
  apply k80
  refine Ag rfl rfl ?_
  refine l_v (Ah (v:=(iV ((k:Int)))) h73_5) ?_
  refine l_v (Br rfl rfl (z:=(((k + 1):Nat):Int)) (Bo (by first | rfl | omega | (push_cast; rfl)) (by omega) (by omega))) ?_
  refine l_v (Cp (v:=(iV ((((k + 1):Nat):Int)))) rfl) ?_
  refine Bj (Asf l88) ?_
  apply Ac
  refine ⟨_,?_,((k + 1)),rfl,rfl,rfl,rfl,h73_1,rfl,(by omega),(Eg p73_1 (by simp [L0w,ha85,b8,b11,b20,b46,b49,b52,b55,b62,b69,b79,b92,b95,b98,b101,b104,b107,q11,q20,q49,q55,q62,q69,q79,q107])),trivial⟩
  omega
 have q79:=of_decide_eq_false b79
 refine Bx ?_
 apply k71
 refine w_q rfl rfl fun K108 k108=>?_
 refine l_v (Cp (v:=(iV (0))) rfl) ?_
 refine l_k k108 ?_
 refine Aj (Asf l2) ?_
 refine Aq ?_
 refine hret _ _ _ ⟨rfl,rfl,Eq.trans (b:=(iV (0))) rfl ?_⟩
 rw [L0v,if_pos (Fz.2 q11)]
 rw [Fb fun j hj=>p14_1 j (by omega),Gr rfl]
 rw [if_pos (by simp [b8,b11,b20,b46,b49,b52,b55,b62,b69,b79,q11,q20,q49,q55,q62,q69,q79])]
 rw [Gr q62]
 rw [if_neg (by omega)]
 rw [Fb fun j hj=>p73_1 j (by omega)]
set_option maxRecDepth 100000 in
theorem L3u {mn:Bool} {X:Frame→List Frame→Ro→Own→Cy→Prop} {ρ:Ro} {σ:Own} {picks:List UH} {vk:Value} {k:Nat} (rk:Val ρ vk picks):CallsH (CX mn X) 58 #[vk,(iV ((k:Int)))] ρ σ (fun w ρ' σ'=>ρ' = ρ∧σ' = σ∧w = (iV (((L0g picks k:Nat):Int)))):=by
 refine Bh (n:=14) (args:=[vk,(iV ((k:Int)))]) [4] Tryz.func58 rfl rfl rfl rfl fun Q hret hnor=>?_
 refine w_q rfl rfl fun K1 k1=>?_
 refine l_v (Cp (v:=(iV (0))) rfl) ?_
 refine Ary rfl rfl k1 fun K2 K3 k2 k3=>?_
 refine l_v (Ah (v:=(iV ((k:Int)))) rfl) ?_
 refine l_v (Ah (v:=vk) rfl) ?_
 have g4:=Val.len rk
 refine l_v (Ci (el:=75) Tryz.underlying27 rfl rk) ?_
 refine l_v (Da rfl rfl) ?_
 refine l_k k3 ?_
 refine As (t:=decide ((k:Int) < ((picks.length:Nat):Int))) rfl (fun b5=>?_) (fun b5=>?_)
 ·have q5:=of_decide_eq_true b5
  refine w_q rfl rfl fun K6 k6=>?_
  refine l_v (Ah (v:=vk) rfl) ?_
  refine l_v (Ah (v:=(iV ((k:Int)))) rfl) ?_
  obtain ⟨a8,ha8⟩:=Ed (xs:=picks) (i:=k) (by omega)
  refine Arw (Ch k Tryz.underlying27 M0g rfl rk (q:=(k:Int)) rfl rfl ha8) fun v7 r7=>?_
  have g9:=a8.lt
  refine l_v (L7d M0g rfl r7) ?_
  refine l_v (Acf (p:=((a8.n:Nat):Int)) (z:=((a8.n:Nat):Int)) Tryz.underlying75 Tryz.underlying3 rfl (Bo rfl (by omega) (by omega))) ?_
  refine l_v (Cp (v:=(iV (((a8.n:Nat):Int)))) rfl) ?_
  refine l_k k6 ?_
  refine Aq ?_
  refine hret _ _ _ ⟨rfl,rfl,Eq.trans (b:=(iV (((a8.n:Nat):Int)))) rfl ?_⟩
  rw [L5r ha8]
 have q5:=of_decide_eq_false b5
 refine Al ?_
 apply k2
 refine w_q rfl rfl fun K10 k10=>?_
 refine l_v (Cp (v:=(iV (0))) rfl) ?_
 refine l_k k10 ?_
 refine Aq ?_
 refine hret _ _ _ ⟨rfl,rfl,Eq.trans (b:=(iV (0))) rfl ?_⟩
 rw [L4y (by omega)]; rfl
set_option maxRecDepth 100000 in
theorem L7i {mn:Bool} {X:Frame→List Frame→Ro→Own→Cy→Prop} {ρ:Ro} {σ:Own} {d:Drying} {vd:Value} {i:Nat} {was heat:Int} (rd:Val ρ vd d) (hi:i < d.steps.length) (hw:-100 ≤ was∧was ≤ 100):CallsH (CX mn X) 59 #[vd,(iV ((i:Int))),(iV (was)),(iV (heat))] ρ σ (fun w ρ' σ'=>ρ' = ρ∧σ' = σ∧w = (.bool (L1j (d.heats.length:Int) (L2b d i) was heat))):=by
 refine Bh (n:=40) (args:=[vd,(iV ((i:Int))),(iV (was)),(iV (heat))]) [8] Tryz.func59 rfl rfl rfl rfl fun Q hret hnor=>?_
 refine w_q rfl rfl fun K1 k1=>?_
 refine Arv (Eb (v:=vd) rfl fun k2=>?_)
 refine Bb (a:=d) rd fun ρ2 l2 r2=>?_
 refine l_v (Cp (v:=(.bool (false))) rfl) ?_
 refine Arx rfl rfl k1 fun K3 k3=>?_
 refine l_v (Ah (v:=(iV (heat))) rfl) ?_
 refine Arw (Ay Drying.f_heats Tryz.underlying59 rfl rfl L0k (by decide) rfl r2) fun v4 r4=>?_
 refine Arw (Ax L0k rfl r4) fun v5 r5=>?_
 have g6:=Val.len r5
 refine l_v (Ci (el:=152) Tryz.underlying54 rfl r5) ?_
 refine l_v (Ou rfl rfl (z:=(((d.heats.length:Nat):Int) - 1)) (Bo (by first | rfl | omega | (push_cast; rfl)) (by omega) (by omega))) ?_
 refine Arv (Bm (L2n) Tryz.func52 rfl rfl ⟨rfl,rfl,rfl,trivial⟩ ?_)
 refine l_v (Ah (v:=(.bool (inR heat 0 ((((d.heats.length:Nat):Int) - 1))))) rfl) ?_
 refine Cn (inR heat 0 ((((d.heats.length:Nat):Int) - 1))) (fun b7=>?_) (fun b7=>?_)
 ·have q7:=Fz.1 b7
  refine l_M (iV (heat)) (Ar rfl rfl rfl b7) rfl ?_
  refine l_M (iV (was)) (Ar rfl rfl rfl b7) rfl ?_
  refine Aa (Ar rfl rfl rfl b7) (Ek rfl rfl) ?_
  refine l_M (.bool (heat == was)) (Ar rfl rfl rfl b7) rfl ?_
  refine Cn (heat == was) (fun b8=>?_) (fun b8=>?_)
  ·have q8:=Jr b8
   refine Ap (Bl rfl rfl rfl b8) ?_
   refine Ap (Bl rfl rfl rfl b8) ?_
   refine Ap (Bl rfl rfl rfl b8) ?_
   refine Ap (Bl rfl rfl rfl b8) ?_
   refine Ap (Bl rfl rfl rfl b8) ?_
   refine Ap (Bl rfl rfl rfl b8) ?_
   refine Ap (Bl rfl rfl rfl b8) ?_
   refine Ap (Jf rfl rfl rfl) ?_
   refine Ap (Jf rfl rfl rfl) ?_
   refine Ap (Jf rfl rfl rfl) ?_
   refine Ap (Jf rfl rfl rfl) ?_
   refine Ap (Jf rfl rfl rfl) ?_
   refine Ap (Jf rfl rfl rfl) ?_
   refine Ap (Jf rfl rfl rfl) ?_
   refine Ap (Jf rfl rfl rfl) ?_
   refine Ap (Jf rfl rfl rfl) ?_
   refine Ap (Jf rfl rfl rfl) ?_
   refine Ap (Bl rfl rfl rfl b8) ?_
   refine Aa (Ar rfl rfl rfl b7) (Bt rfl b8 (v:=(.bool (true))) rfl) ?_
   refine l_v (Bt rfl b7 (v:=(.bool (true))) rfl) ?_
   refine l_v (Cp (v:=(.bool (true))) rfl) ?_
   refine l_k k3 ?_
   refine Aj (Asf l2) ?_
   refine Aq ?_
   refine hret _ _ _ ⟨rfl,rfl,Eq.trans (b:=(.bool (true))) rfl ?_⟩
   simp only [L1j,L2b,b7,b8,Bool.true_and,Bool.false_and,Bool.and_true,Bool.and_false,Bool.true_or,Bool.false_or,Bool.or_true,Bool.or_false,Bool.not_true,Bool.not_false]
  have q8:=Jq b8
  refine Ak (Ar rfl rfl rfl b8) (Ay Drying.f_steps Tryz.underlying59 rfl rfl L0p (by decide) rfl r2) fun v9 r9=>?_
  refine Ak (Ar rfl rfl rfl b8) (Ax L0p rfl r9) fun v10 r10=>?_
  refine l_M (iV ((i:Int))) (Ar rfl rfl rfl b8) rfl ?_
  obtain ⟨a12,ha12⟩:=Ed (xs:=d.steps) (i:=i) (by omega)
  refine Ak (Ar rfl rfl rfl b8) (Ch i Tryz.underlying57 L0u rfl r10 (q:=(i:Int)) rfl rfl ha12) fun v11 r11=>?_
  refine Ak (Ar rfl rfl rfl b8) (Ay DryStep.f_tended Tryz.underlying155 rfl rfl ty4 (by decide) rfl r11) fun v13 r13=>?_
  refine Aa (Ar rfl rfl rfl b8) (Nx ty4 rfl r13) ?_
  refine l_M (.bool (a12.tended)) (Ar rfl rfl rfl b8) rfl ?_
  refine Cn (a12.tended) (fun b15=>?_) (fun b15=>?_)
  ·refine Aa (Ar rfl rfl rfl b15) (Ah (v:=(iV (heat))) rfl) ?_
   refine l_M (iV (was)) (Ar rfl rfl rfl b15) rfl ?_
   refine Aa (Ar rfl rfl rfl b15) (Br rfl rfl (z:=(was + 1)) (Bo (by rfl) (by omega) (by omega))) ?_
   refine Aa (Ar rfl rfl rfl b15) (Ek rfl rfl) ?_
   refine l_M (.bool (heat == (was + 1))) (Ar rfl rfl rfl b15) rfl ?_
   refine Cn (heat == (was + 1)) (fun b16=>?_) (fun b16=>?_)
   ·have q16:=Jr b16
    refine Ap (Bl rfl rfl rfl b16) ?_
    refine Ap (Bl rfl rfl rfl b16) ?_
    refine Ap (Bl rfl rfl rfl b16) ?_
    refine Ap (Bl rfl rfl rfl b16) ?_
    refine Aa (Ar rfl rfl rfl b15) (Bt rfl b16 (v:=(.bool (true))) rfl) ?_
    refine Aa (Ar rfl rfl rfl b8) (Bt rfl b15 (v:=(.bool (true))) rfl) ?_
    refine Aa (Ar rfl rfl rfl b7) (Bn rfl b8 (v:=(.bool (true))) rfl) ?_
    refine l_v (Bt rfl b7 (v:=(.bool (true))) rfl) ?_
    refine l_v (Cp (v:=(.bool (true))) rfl) ?_
    refine l_k k3 ?_
    refine Aj (Asf l2) ?_
    refine Aq ?_
    refine hret _ _ _ ⟨rfl,rfl,Eq.trans (b:=(.bool (true))) rfl ?_⟩
    simp only [L1j,L2b,ha12,b7,b8,b15,b16,Bool.true_and,Bool.false_and,Bool.and_true,Bool.and_false,Bool.true_or,Bool.false_or,Bool.or_true,Bool.or_false,Bool.not_true,Bool.not_false]
   have q16:=Jq b16
   refine l_M (iV (heat)) (Ar rfl rfl rfl b16) rfl ?_
   refine l_M (iV (was)) (Ar rfl rfl rfl b16) rfl ?_
   refine Aa (Ar rfl rfl rfl b16) (Ou rfl rfl (z:=(was - 1)) (Bo (by rfl) (by omega) (by omega))) ?_
   refine Aa (Ar rfl rfl rfl b16) (Ek rfl rfl) ?_
   refine Aa (Ar rfl rfl rfl b15) (Bn rfl b16 (v:=(.bool (heat == (was - 1)))) rfl) ?_
   refine Aa (Ar rfl rfl rfl b8) (Bt rfl b15 (v:=(.bool (heat == (was - 1)))) rfl) ?_
   refine Aa (Ar rfl rfl rfl b7) (Bn rfl b8 (v:=(.bool (heat == (was - 1)))) rfl) ?_
   refine l_v (Bt rfl b7 (v:=(.bool (heat == (was - 1)))) rfl) ?_
   refine l_v (Cp (v:=(.bool (heat == (was - 1)))) rfl) ?_
   refine l_k k3 ?_
   refine Aj (Asf l2) ?_
   refine Aq ?_
   refine hret _ _ _ ⟨rfl,rfl,Eq.trans (b:=(.bool (heat == (was - 1)))) rfl ?_⟩
   simp only [L1j,L2b,ha12,b7,b8,b15,b16,Bool.true_and,Bool.false_and,Bool.and_true,Bool.and_false,Bool.true_or,Bool.false_or,Bool.or_true,Bool.or_false,Bool.not_true,Bool.not_false]
  refine Ap (Bl rfl rfl rfl b15) ?_
  refine Ap (Bl rfl rfl rfl b15) ?_
  refine Ap (Bl rfl rfl rfl b15) ?_
  refine Ap (Bl rfl rfl rfl b15) ?_
  refine Ap (Bl rfl rfl rfl b15) ?_
  refine Ap (Jf rfl rfl rfl) ?_
  refine Ap (Jf rfl rfl rfl) ?_
  refine Ap (Jf rfl rfl rfl) ?_
  refine Ap (Jf rfl rfl rfl) ?_
  refine Ap (Bl rfl rfl rfl b15) ?_
  refine Aa (Ar rfl rfl rfl b8) (Bn rfl b15 (v:=(.bool (false))) rfl) ?_
  refine Aa (Ar rfl rfl rfl b7) (Bn rfl b8 (v:=(.bool (false))) rfl) ?_
  refine l_v (Bt rfl b7 (v:=(.bool (false))) rfl) ?_
  refine l_v (Cp (v:=(.bool (false))) rfl) ?_
  refine l_k k3 ?_
  refine Aj (Asf l2) ?_
  refine Aq ?_
  refine hret _ _ _ ⟨rfl,rfl,Eq.trans (b:=(.bool (false))) rfl ?_⟩
  simp only [L1j,L2b,ha12,b7,b8,b15,Bool.true_and,Bool.false_and,Bool.and_true,Bool.and_false,Bool.true_or,Bool.false_or,Bool.or_true,Bool.or_false,Bool.not_true,Bool.not_false]
 have q7:=Tr.1 b7
 refine Ap (Bl rfl rfl rfl b7) ?_
 refine Ap (Bl rfl rfl rfl b7) ?_
 refine Ap (Bl rfl rfl rfl b7) ?_
 refine Ap (Bl rfl rfl rfl b7) ?_
 refine Ap (Jf rfl rfl rfl) ?_
 refine Ap (Jf rfl rfl rfl) ?_
 refine Ap (Jf rfl rfl rfl) ?_
 refine Ap (Jf rfl rfl rfl) ?_
 refine Ap (Jf rfl rfl rfl) ?_
 refine Ap (Jf rfl rfl rfl) ?_
 refine Ap (Jf rfl rfl rfl) ?_
 refine Ap (Jf rfl rfl rfl) ?_
 refine Ap (Jf rfl rfl rfl) ?_
 refine Ap (Jf rfl rfl rfl) ?_
 refine Ap (Jf rfl rfl rfl) ?_
 refine Ap (Jf rfl rfl rfl) ?_
 refine Ap (Jf rfl rfl rfl) ?_
 refine Ap (Jf rfl rfl rfl) ?_
 refine Ap (Jf rfl rfl rfl) ?_
 refine Ap (Jf rfl rfl rfl) ?_
 refine Ap (Jf rfl rfl rfl) ?_
 refine Ap (Jf rfl rfl rfl) ?_
 refine Ap (Bl rfl rfl rfl b7) ?_
 refine l_v (Bn rfl b7 (v:=(.bool (false))) rfl) ?_
 refine l_v (Cp (v:=(.bool (false))) rfl) ?_
 refine l_k k3 ?_
 refine Aj (Asf l2) ?_
 refine Aq ?_
 refine hret _ _ _ ⟨rfl,rfl,Eq.trans (b:=(.bool (false))) rfl ?_⟩
 simp only [L1j,L2b,b7,Bool.true_and,Bool.false_and,Bool.and_true,Bool.and_false,Bool.true_or,Bool.false_or,Bool.or_true,Bool.or_false,Bool.not_true,Bool.not_false]
set_option maxRecDepth 100000 in
theorem L9q {mn:Bool} {X:Frame→List Frame→Ro→Own→Cy→Prop} {ρ:Ro} {σ:Own} {x:Span} {vx:Value} {b:Nat} (rx:Val ρ vx x) (hx:0 ≤ x.low∧x.low ≤ x.high∧x.high ≤ 1000000) (hb:b < 65536):CallsH (CX mn X) 64 #[vx,(iV ((b:Int)))] ρ σ (fun w ρ' σ'=>ρ' = ρ∧σ' = σ∧w = (iV (L3r x b))):=by
 refine Bh (n:=16) (args:=[vx,(iV ((b:Int)))]) [4] Tryz.func64 rfl rfl rfl rfl fun Q hret hnor=>?_
 refine w_q rfl rfl fun K1 k1=>?_
 refine Arv (Eb (v:=vx) rfl fun k2=>?_)
 refine Bb (a:=x) rx fun ρ2 l2 r2=>?_
 refine l_v (Cp (v:=(iV (0))) rfl) ?_
 refine Asa k1 fun K3 k3=>?_
 refine Dc [0,1,2,3,4,5,6,7,8,9,10,11] (by kernel_rfl) rfl rfl ?_
 refine Cd (i:=0) [o1,o0,o0,o0,o0,o0,o0,o0,o0,o0,o0,o0] rfl (by kernel_rfl) rfl Ash rfl (Ay Span.f_low Tryz.underlying41 rfl rfl ty3 (by decide) rfl r2) fun v4 r4=>?_
 have ⟨g5a,g5b⟩:=At.rng r4
 refine Bd (i:=1) [o1,o1,o0,o0,o0,o0,o0,o0,o0,o0,o0,o0] rfl (by kernel_rfl) rfl Ash rfl (Bc ty3 rfl r4) ?_
 refine Bd (i:=2) [o1,o1,o1,o0,o0,o0,o0,o0,o0,o0,o0,o0] rfl (by kernel_rfl) rfl Ash rfl (Ah (v:=(iV ((b:Int)))) rfl) ?_
 refine Cd (i:=3) [o1,o1,o1,o1,o0,o0,o0,o0,o0,o0,o0,o0] rfl (by kernel_rfl) rfl Ash rfl (Ay Span.f_high Tryz.underlying41 rfl rfl ty3 (by decide) rfl r2) fun v6 r6=>?_
 have ⟨g7a,g7b⟩:=At.rng r6
 refine Bd (i:=4) [o1,o1,o1,o1,o1,o0,o0,o0,o0,o0,o0,o0] rfl (by kernel_rfl) rfl Ash rfl (Bc ty3 rfl r6) ?_
 refine Hk (i:=5) [o1,o1,o1,o1,o1,o1,o0,o0,o0,o0,o0,o0] rfl (by kernel_rfl) rfl Ash rfl (Ay Span.f_low Tryz.underlying41 rfl rfl ty3 (by decide) rfl r2) fun v8 r8=>?_
 have ⟨g9a,g9b⟩:=At.rng r8
 refine Bg (i:=6) [o1,o1,o1,o1,o1,o1,o1,o0,o0,o0,o0,o0] rfl (by kernel_rfl) rfl Ash rfl (Bc ty3 rfl r8) ?_
 refine Bg (i:=7) [o1,o1,o1,o1,o1,o1,o1,o1,o0,o0,o0,o0] rfl (by kernel_rfl) rfl Ash rfl (Ou rfl rfl (z:=(x.high - x.low)) (Bo (by rfl) (by omega) (by omega))) ?_
 refine Bg (i:=8) Aoo rfl (by kernel_rfl) rfl Ash rfl (Br rfl rfl (z:=((x.high - x.low) + 1)) (Bo (by rfl) (by omega) (by omega))) ?_
 have hmod10:0 ≤ ((b:Int)).tmod (((x.high - x.low) + 1))∧((b:Int)).tmod (((x.high - x.low) + 1)) < ((x.high - x.low) + 1):=⟨Int.tmod_nonneg _ (by omega),Int.tmod_lt_of_pos _ (by omega)⟩
 refine Bg (i:=9) Amg rfl (by kernel_rfl) rfl Ash rfl (L9i (p:=(b:Int)) (q:=((x.high - x.low) + 1)) rfl rfl (by omega) (z:=(((b:Int)).tmod (((x.high - x.low) + 1)))) rfl) ?_
 refine Bg (i:=10) zZ0 rfl (by kernel_rfl) rfl Ash rfl (Br rfl rfl (z:=(x.low + (((b:Int)).tmod (((x.high - x.low) + 1))))) (Bo (by rfl) (by omega) (by omega))) ?_
 refine Bg (i:=11) zZ1 rfl (by kernel_rfl) rfl Ash rfl (Cp (v:=(iV ((x.low + (((b:Int)).tmod (((x.high - x.low) + 1))))))) rfl) ?_
 refine Ec rfl ?_
 apply k3
 refine Aj (Asf l2) ?_
 refine Aq ?_
 refine hret _ _ _ ⟨rfl,rfl,Eq.trans (b:=(iV ((x.low + (((b:Int)).tmod (((x.high - x.low) + 1))))))) rfl ?_⟩
 rfl
set_option maxRecDepth 100000 in
theorem L8o {mn:Bool} {X:Frame→List Frame→Ro→Own→Cy→Prop} {ρ:Ro} {σ:Own} {d:Drying} {vd:Value} {picks:List UH} {vk:Value} (rd:Val ρ vd d) (rk:Val ρ vk picks) (ok:DryOk d):CallsH (CX mn X) 18 #[vd,vk] ρ σ (fun w ρ' σ'=>Ro.le ρ ρ'∧σ' = σ∧Val ρ' w (L0y d picks d.steps.length:List Int)):=by
 have hn5:=ok.n5
 have hn4:=ok.n4
 have hn1:=ok.n1
 refine Bh (n:=38) (args:=[vd,vk]) [4] Tryz.func18 rfl rfl rfl rfl fun Q hret hnor=>?_
 refine w_q rfl rfl fun K1 k1=>?_
 refine Arv (Eb (v:=vd) rfl fun k2=>?_)
 refine Bb (a:=d) rd fun ρ2 l2 r2=>?_
 replace rk:=Asj l2 rk
 refine l_v (Cp (v:=(.slice none 0 0)) rfl) ?_
 refine Arx rfl rfl k1 fun K3 k3=>?_
 refine l_v (Cp (v:=(.slice none 0 0)) rfl) ?_
 refine Arx rfl rfl k3 fun K4 k4=>?_
 refine Arw (Ay Drying.f_start Tryz.underlying59 rfl rfl L0o (by decide) rfl r2) fun v5 r5=>?_
 refine Arw (Ay DryState.f_heat Tryz.underlying56 rfl rfl ty3 (by decide) rfl r5) fun v6 r6=>?_
 have ⟨g7a,g7b⟩:=At.rng r6
 refine l_v (Bc ty3 rfl r6) ?_
 refine l_v (Cp (v:=(iV (d.start.heat))) rfl) ?_
 refine Ary rfl rfl k4 fun K8 K9 k8 k9=>?_
 refine l_v (Cp (v:=(iV (0))) rfl) ?_
 refine l_k k9 ?_
 refine Ao ?_
 refine Cc (fun mm ee dd ρ' σ'=>∃ (i:Nat) (h:Int) (ov10_5:Value) (og10_5:Own),(d.steps.length - i) = mm∧[] = dd∧Ro.le ρ2 ρ'∧(og10_5 ++ σ) = σ'∧ee 1 = vk∧ee 2 = (.pointer (some ⟨k2,0,none⟩))∧ee 5 = ov10_5∧ee 6 = (iV (h))∧ee 7 = (iV ((i:Int)))∧(i ≤ d.steps.length)∧(h = L0s d picks i)∧Grow ρ' 3 ov10_5 (L0y d picks i) og10_5∧True) (m:=_) ⟨0,d.start.heat,(.slice none 0 0),[],rfl,rfl,Ash,rfl,rfl,rfl,rfl,rfl,rfl,(Nat.zero_le _),rfl,Hm,trivial⟩ ?_
 rintro m10 e10 _ ρ10 _ ⟨i,h,ov10_5,og10_5,rfl,rfl,l10,rfl,h10_1,h10_2,h10_5,h10_6,h10_7,p10_0,p10_1,OG10_5,_⟩
 replace rk:=Asj l10 rk
 replace r2:=At.mono l10 r2
 have hch0:=L1s (picks:=picks) ok i
 refine Asb rfl rfl fun K11 K12 k11 k12=>?_
 refine l_v (Ah (v:=(iV ((i:Int)))) h10_7) ?_
 refine Arw (Ay Drying.f_steps Tryz.underlying59 rfl rfl L0p (by decide) h10_2 r2) fun v13 r13=>?_
 refine Arw (Ax L0p rfl r13) fun v14 r14=>?_
 have g15:=Val.len r14
 refine l_v (Ci (el:=155) Tryz.underlying57 rfl r14) ?_
 refine l_v (Da rfl rfl) ?_
 refine l_k k12 ?_
 refine As (t:=decide ((i:Int) < ((d.steps.length:Nat):Int))) rfl (fun b16=>?_) (fun b16=>?_)
 ·have q16:=of_decide_eq_true b16
  refine Al ?_
  apply k11
  refine Ai fun K17 k17=>?_
  refine Ao ?_
  refine w_q rfl rfl fun K18 k18=>?_
  refine l_v (Ah (v:=(iV (h))) h10_6) ?_
  refine l_v (Ah (v:=vk) h10_1) ?_
  refine l_v (Ah (v:=(iV ((i:Int)))) h10_7) ?_
  refine l_v (Br rfl rfl (z:=(((10 + i):Nat):Int)) (Bo (by first | rfl | omega | (push_cast; rfl)) (by omega) (by omega))) ?_
  have hch19:=L3g (l:=picks) (k:=((10 + i)))
  refine Arv (Bm (L3u rk) Tryz.func58 rfl rfl ⟨rfl,rfl,trivial⟩ ?_)
  refine l_v (L9i (p:=(((L0g picks ((10 + i))):Nat):Int)) (q:=3) rfl rfl (by omega) (z:=((((L0g picks ((10 + i))) % 3):Nat):Int)) rfl) ?_
  refine l_v (Br rfl rfl (z:=(h + ((((L0g picks ((10 + i))) % 3):Nat):Int))) (Bo (by rfl) (by omega) (by omega))) ?_
  refine l_v (Ou rfl rfl (z:=((h + ((((L0g picks ((10 + i))) % 3):Nat):Int)) - 1)) (Bo (by rfl) (by omega) (by omega))) ?_
  refine l_v (Cp (v:=(iV (((h + ((((L0g picks ((10 + i))) % 3):Nat):Int)) - 1)))) rfl) ?_
  refine Ary rfl rfl k18 fun K20 K21 k20 k21=>?_
  refine Arw (Ax L0t h10_2 r2) fun v22 r22=>?_
  refine l_v (Ah (v:=(iV ((i:Int)))) h10_7) ?_
  refine l_v (Ah (v:=(iV (h))) h10_6) ?_
  refine l_v (Ah (v:=(iV (((h + ((((L0g picks ((10 + i))) % 3):Nat):Int)) - 1)))) rfl) ?_
  refine Arv (Bm (L7i r22 (by omega) (by omega)) Tryz.func59 rfl rfl ⟨rfl,rfl,rfl,rfl,trivial⟩ ?_)
  refine l_k k21 ?_
  refine As (t:=L1j (d.heats.length:Int) (L2b d i) h (((h + ((((L0g picks ((10 + i))) % 3):Nat):Int)) - 1))) rfl (fun b23=>?_) (fun b23=>?_)
  ·refine Ag rfl rfl ?_
   refine l_v (Ah (v:=(iV (((h + ((((L0g picks ((10 + i))) % 3):Nat):Int)) - 1)))) rfl) ?_
   refine l_v (Cp (v:=(iV (((h + ((((L0g picks ((10 + i))) % 3):Nat):Int)) - 1)))) rfl) ?_
   refine l_k k20 ?_
   refine Ag rfl rfl ?_
   refine l_v (Ah (v:=ov10_5) h10_5) ?_
   refine l_v (Ah (v:=(iV (((h + ((((L0g picks ((10 + i))) % 3):Nat):Int)) - 1)))) rfl) ?_
   refine Arv (Bi (α:=Int) (xs:=[((h + ((((L0g picks ((10 + i))) % 3):Nat):Int)) - 1)]) (vs:=[(iV (((h + ((((L0g picks ((10 + i))) % 3):Nat):Int)) - 1)))]) Tryz.underlying49 ty3 zr3 rfl (by decide) (Dk (os:=[.tmp 34]) ⟨rfl,trivial⟩) ⟨(Cv.2 ⟨rfl,by constructor <;> omega⟩),trivial⟩ rfl (by decide) fun k24 cs24 R24=>?_)
   have G24:Grow ρ10 3 (.slice (some ⟨k24,0,none⟩) 1 1) ([((h + ((((L0g picks ((10 + i))) % 3):Nat):Int)) - 1)]:List Int) [(k24,oC cs24.toArray 3)]:=Bs R24 rfl (by decide)
   refine Ca G24 fun ρ26 l26 r26=>?_
   replace OG10_5:=Grow.mono l26 OG10_5
   refine Arv (Gc (σ:=σ) (gr:=og10_5) (xs:=L0y d picks i) (ys:=([((h + ((((L0g picks ((10 + i))) % 3):Nat):Int)) - 1)]:List Int)) Tryz.underlying49 Tryz.underlying49 (Ab Tryz.typeInfo3) rfl (Nat.le_of_ble_eq_true rfl) rfl rfl rfl rfl OG10_5 r26 (by simp only [List.length_append,List.length_cons,List.length_nil,L0y,List.length_map,List.length_range]; omega) fun v25 gr25 G25=>?_)
   refine l_v (Cp (v:=v25) rfl) ?_
   refine l_k k17 ?_
   refine Ag rfl rfl ?_
   refine l_v (Ah (v:=(iV ((i:Int)))) h10_7) ?_
   refine l_v (Br rfl rfl (z:=(((i + 1):Nat):Int)) (Bo (by first | rfl | omega | (push_cast; rfl)) (by omega) (by omega))) ?_
   refine l_v (Cp (v:=(iV ((((i + 1):Nat):Int)))) rfl) ?_
   apply Ac
   refine ⟨_,?_,((i + 1)),(((h + ((((L0g picks ((10 + i))) % 3):Nat):Int)) - 1)),v25,gr25,rfl,rfl,(Asi l10 l26),rfl,h10_1,h10_2,rfl,rfl,rfl,(by omega),(show ((h + ((((L0g picks ((10 + i))) % 3):Nat):Int)) - 1) = L0s d picks (i + 1) by show _ = (if L1j _ _ _ _ = true then _ else _); rw [← p10_1,if_pos (by rw [b23])]),(Fy (by unfold L0y; rw [List.range_succ,List.map_append]; congr 1; simp only [List.map_cons,List.map_nil]; rw [← (show ((h + ((((L0g picks ((10 + i))) % 3):Nat):Int)) - 1) = L0s d picks (i + 1) by show _ = (if L1j _ _ _ _ = true then _ else _); rw [← p10_1,if_pos (by rw [b23])])]) G25),trivial⟩
   omega
  refine Al ?_
  apply k20
  refine Ag rfl rfl ?_
  refine l_v (Ah (v:=ov10_5) h10_5) ?_
  refine l_v (Ah (v:=(iV (h))) h10_6) ?_
  refine Arv (Bi (α:=Int) (xs:=[h]) (vs:=[(iV (h))]) Tryz.underlying49 ty3 zr3 rfl (by decide) (Dk (os:=[.tmp 34]) ⟨rfl,trivial⟩) ⟨(Cv.2 ⟨rfl,by constructor <;> omega⟩),trivial⟩ rfl (by decide) fun k27 cs27 R27=>?_)
  have G27:Grow ρ10 3 (.slice (some ⟨k27,0,none⟩) 1 1) ([h]:List Int) [(k27,oC cs27.toArray 3)]:=Bs R27 rfl (by decide)
  refine Ca G27 fun ρ29 l29 r29=>?_
  replace OG10_5:=Grow.mono l29 OG10_5
  refine Arv (Gc (σ:=σ) (gr:=og10_5) (xs:=L0y d picks i) (ys:=([h]:List Int)) Tryz.underlying49 Tryz.underlying49 (Ab Tryz.typeInfo3) rfl (Nat.le_of_ble_eq_true rfl) rfl rfl rfl rfl OG10_5 r29 (by simp only [List.length_append,List.length_cons,List.length_nil,L0y,List.length_map,List.length_range]; omega) fun v28 gr28 G28=>?_)
  refine l_v (Cp (v:=v28) rfl) ?_
  refine l_k k17 ?_
  refine Ag rfl rfl ?_
  refine l_v (Ah (v:=(iV ((i:Int)))) h10_7) ?_
  refine l_v (Br rfl rfl (z:=(((i + 1):Nat):Int)) (Bo (by first | rfl | omega | (push_cast; rfl)) (by omega) (by omega))) ?_
  refine l_v (Cp (v:=(iV ((((i + 1):Nat):Int)))) rfl) ?_
  apply Ac
  refine ⟨_,?_,((i + 1)),(h),v28,gr28,rfl,rfl,(Asi l10 l29),rfl,h10_1,h10_2,rfl,h10_6,rfl,(by omega),(show h = L0s d picks (i + 1) by show _ = (if L1j _ _ _ _ = true then _ else _); rw [← p10_1,if_neg (by rw [b23]; exact Bool.false_ne_true)]),(Fy (by unfold L0y; rw [List.range_succ,List.map_append]; congr 1; simp only [List.map_cons,List.map_nil]; rw [← (show h = L0s d picks (i + 1) by show _ = (if L1j _ _ _ _ = true then _ else _); rw [← p10_1,if_neg (by rw [b23]; exact Bool.false_ne_true)])]) G28),trivial⟩
  omega
 have q16:=of_decide_eq_false b16
 refine Bx ?_
 apply k8
 refine w_q rfl rfl fun K30 k30=>?_
 refine l_v (Ah (v:=ov10_5) h10_5) ?_
 refine l_v (Cp (v:=ov10_5) rfl) ?_
 refine l_k k30 ?_
 refine Hc OG10_5 fun ρ31 l31 r31=>?_
 refine Aq ?_
 refine hret _ _ _ ?_
 refine ⟨(Asi (Asi l2 l10) l31),rfl,Abz (v:=ov10_5) rfl (Val.cast ?_ r31)⟩
 ·rw [show d.steps.length = i by omega]
set_option maxRecDepth 100000 in
theorem L9m {mn:Bool} {X:Frame→List Frame→Ro→Own→Cy→Prop} {ρ:Ro} {σ:Own} {d:Drying} {vd:Value} {picks:List UH} {vk:Value} (rd:Val ρ vd d) (rk:Val ρ vk picks) (ok:DryOk d):CallsH (CX mn X) 21 #[vd,vk] ρ σ (fun w ρ' σ'=>Ro.le ρ ρ'∧σ' = σ∧Val ρ' w (L1y d picks d.steps.length:List Int)):=by
 have hn5:=ok.n5
 refine Bh (n:=28) (args:=[vd,vk]) [4] Tryz.func21 rfl rfl rfl rfl fun Q hret hnor=>?_
 refine w_q rfl rfl fun K1 k1=>?_
 refine Arv (Eb (v:=vd) rfl fun k2=>?_)
 refine Bb (a:=d) rd fun ρ2 l2 r2=>?_
 replace rk:=Asj l2 rk
 refine l_v (Cp (v:=(.slice none 0 0)) rfl) ?_
 refine Arx rfl rfl k1 fun K3 k3=>?_
 refine l_v (Cp (v:=(.slice none 0 0)) rfl) ?_
 refine Ary rfl rfl k3 fun K4 K5 k4 k5=>?_
 refine l_v (Cp (v:=(iV (0))) rfl) ?_
 refine l_k k5 ?_
 refine Ao ?_
 refine Cc (fun mm ee dd ρ' σ'=>∃ (i:Nat) (ov6_5:Value) (og6_5:Own),(d.steps.length - i) = mm∧[] = dd∧Ro.le ρ2 ρ'∧(og6_5 ++ σ) = σ'∧ee 1 = vk∧ee 2 = (.pointer (some ⟨k2,0,none⟩))∧ee 5 = ov6_5∧ee 6 = (iV ((i:Int)))∧(i ≤ d.steps.length)∧Grow ρ' 3 ov6_5 (L1y d picks i) og6_5∧True) (m:=_) ⟨0,(.slice none 0 0),[],rfl,rfl,Ash,rfl,rfl,rfl,rfl,rfl,(Nat.zero_le _),Hm,trivial⟩ ?_
 rintro m6 e6 _ ρ6 _ ⟨i,ov6_5,og6_5,rfl,rfl,l6,rfl,h6_1,h6_2,h6_5,h6_6,p6_0,OG6_5,_⟩
 replace rk:=Asj l6 rk
 replace r2:=At.mono l6 r2
 refine Asb rfl rfl fun K7 K8 k7 k8=>?_
 refine l_v (Ah (v:=(iV ((i:Int)))) h6_6) ?_
 refine Arw (Ay Drying.f_steps Tryz.underlying59 rfl rfl L0p (by decide) h6_2 r2) fun v9 r9=>?_
 refine Arw (Ax L0p rfl r9) fun v10 r10=>?_
 have g11:=Val.len r10
 refine l_v (Ci (el:=155) Tryz.underlying57 rfl r10) ?_
 refine l_v (Da rfl rfl) ?_
 refine l_k k8 ?_
 refine As (t:=decide ((i:Int) < ((d.steps.length:Nat):Int))) rfl (fun b12=>?_) (fun b12=>?_)
 ·have q12:=of_decide_eq_true b12
  refine Al ?_
  apply k7
  refine Ai fun K13 k13=>?_
  refine Ao ?_
  refine Dc [0,1,2,3,4,5,6,7,8,9,10,11,12,13] (by kernel_rfl) rfl rfl ?_
  refine Bd (i:=0) [o1,o0,o0,o0,o0,o0,o0,o0,o0,o0,o0,o0,o0,o0] rfl (by kernel_rfl) rfl Ash rfl (Ah (v:=ov6_5) h6_5) ?_
  refine Cd (i:=1) [o1,o1,o0,o0,o0,o0,o0,o0,o0,o0,o0,o0,o0,o0] rfl (by kernel_rfl) rfl Ash rfl (Ay Drying.f_steps Tryz.underlying59 rfl rfl L0p (by decide) h6_2 r2) fun v14 r14=>?_
  refine Cd (i:=2) [o1,o1,o1,o0,o0,o0,o0,o0,o0,o0,o0,o0,o0,o0] rfl (by kernel_rfl) rfl Ash rfl (Ax L0p rfl r14) fun v15 r15=>?_
  refine Bd (i:=3) [o1,o1,o1,o1,o0,o0,o0,o0,o0,o0,o0,o0,o0,o0] rfl (by kernel_rfl) rfl Ash rfl (Ah (v:=(iV ((i:Int)))) h6_6) ?_
  obtain ⟨a17,ha17⟩:=Ed (xs:=d.steps) (i:=i) (by omega)
  obtain ⟨⟨wa17_1,wa17_2,wa17_3⟩,_,_⟩:=ok.step _ _ ha17
  refine Cd (i:=4) [o1,o1,o1,o1,o1,o0,o0,o0,o0,o0,o0,o0,o0,o0] rfl (by kernel_rfl) rfl Ash rfl (Ch i Tryz.underlying57 L0u rfl r15 (q:=(i:Int)) rfl rfl ha17) fun v16 r16=>?_
  refine Cd (i:=5) [o1,o1,o1,o1,o1,o1,o0,o0,o0,o0,o0,o0,o0,o0] rfl (by kernel_rfl) rfl Ash rfl (Ay DryStep.f_damp Tryz.underlying155 rfl rfl Mx (by decide) rfl r16) fun v18 r18=>?_
  refine Cd (i:=6) [o1,o1,o1,o1,o1,o1,o1,o0,o0,o0,o0,o0,o0,o0] rfl (by kernel_rfl) rfl Ash rfl (Ax Mx rfl r18) fun v19 r19=>?_
  refine Bd (i:=7) [o1,o1,o1,o1,o1,o1,o1,o1,o0,o0,o0,o0,o0,o0] rfl (by kernel_rfl) rfl Ash rfl (Ah (v:=vk) h6_1) ?_
  refine Bg (i:=8) [o1,o1,o1,o1,o1,o1,o1,o1,o1,o0,o0,o0,o0,o0] rfl (by kernel_rfl) rfl Ash rfl (Ah (v:=(iV ((i:Int)))) h6_6) ?_
  have hch20:=L3g (l:=picks) (k:=i)
  refine Dj (i:=9) [o1,o1,o1,o1,o1,o1,o1,o1,o1,o1,o0,o0,o0,o0] rfl (by kernel_rfl) rfl rfl (Bm (L3u rk) Tryz.func58 rfl rfl ⟨rfl,rfl,trivial⟩ ⟨Ash,?_⟩)
  have hai21:=L6f (x:=a17.damp) (b:=(L0g picks i)) (by omega)
  refine Dj (i:=10) [o1,o1,o1,o1,o1,o1,o1,o1,o1,o1,o1,o0,o0,o0] rfl (by kernel_rfl) rfl rfl (Bm (L9q r19 (by omega) (by omega)) Tryz.func64 rfl rfl ⟨rfl,rfl,trivial⟩ ⟨Ash,?_⟩)
  refine Dj (i:=11) [o1,o1,o1,o1,o1,o1,o1,o1,o1,o1,o1,o1,o0,o0] rfl (by kernel_rfl) rfl rfl (Bi (α:=Int) (xs:=[L3r a17.damp ((L0g picks i))]) (vs:=[(iV (L3r a17.damp ((L0g picks i))))]) Tryz.underlying49 ty3 zr3 rfl (by decide) (Dk (os:=[.tmp 24]) ⟨rfl,trivial⟩) ⟨(Cv.2 ⟨rfl,by constructor <;> omega⟩),trivial⟩ rfl (by decide) fun k22 cs22 R22=>⟨Ash,?_⟩)
  have G22:Grow ρ6 3 (.slice (some ⟨k22,0,none⟩) 1 1) ([L3r a17.damp ((L0g picks i))]:List Int) [(k22,oC cs22.toArray 3)]:=Bs R22 rfl (by decide)
  refine Lr G22 fun ρ24 l24 r24=>?_
  replace OG6_5:=Grow.mono l24 OG6_5
  refine Dj (i:=12) [o1,o1,o1,o1,o1,o1,o1,o1,o1,o1,o1,o1,o1,o0] rfl (by kernel_rfl) rfl rfl (Gc (σ:=σ) (gr:=og6_5) (xs:=L1y d picks i) (ys:=([L3r a17.damp ((L0g picks i))]:List Int)) Tryz.underlying49 Tryz.underlying49 (Ab Tryz.typeInfo3) rfl (Nat.le_of_ble_eq_true rfl) rfl rfl rfl rfl OG6_5 r24 (by simp only [List.length_append,List.length_cons,List.length_nil,L1y,List.length_map,List.length_range]; omega) fun v23 gr23 G23=>⟨l24,?_⟩)
  refine Bg (i:=13) [o1,o1,o1,o1,o1,o1,o1,o1,o1,o1,o1,o1,o1,o1] rfl (by kernel_rfl) rfl l24 rfl (Cp (v:=v23) rfl) ?_
  refine Ec rfl ?_
  apply k13
  refine Ag rfl rfl ?_
  refine l_v (Ah (v:=(iV ((i:Int)))) h6_6) ?_
  refine l_v (Br rfl rfl (z:=(((i + 1):Nat):Int)) (Bo (by first | rfl | omega | (push_cast; rfl)) (by omega) (by omega))) ?_
  refine l_v (Cp (v:=(iV ((((i + 1):Nat):Int)))) rfl) ?_
  apply Ac
  refine ⟨_,?_,((i + 1)),v23,gr23,rfl,rfl,(Asi l6 l24),rfl,h6_1,h6_2,rfl,rfl,(by omega),(Fy (by unfold L1y; rw [List.range_succ,List.map_append]; congr 1; simp only [List.map_cons,List.map_nil,L1g,ha17]) G23),trivial⟩
  omega
 have q12:=of_decide_eq_false b12
 refine Bx ?_
 apply k4
 refine w_q rfl rfl fun K25 k25=>?_
 refine l_v (Ah (v:=ov6_5) h6_5) ?_
 refine l_v (Cp (v:=ov6_5) rfl) ?_
 refine l_k k25 ?_
 refine Hc OG6_5 fun ρ26 l26 r26=>?_
 refine Aq ?_
 refine hret _ _ _ ?_
 refine ⟨(Asi (Asi l2 l6) l26),rfl,Abz (v:=ov6_5) rfl (Val.cast ?_ r26)⟩
 ·rw [show d.steps.length = i by omega]
end Go.Proofs.YtphgjjmlnkgghaaGreatDoor

namespace Go.Proofs.YtphgjjmlnkgghaaGreatDoor
open Go
def L7e (C:Ctx) (l:Nat) (x:Value × Value) (ρ:Ro) (σ:Own) (R:Value→Ro→Own→Prop):Prop :=
  ∀ rd ds,wpS C.P ρ (Instr.yield l #[x.1,x.2]) σ (NextH C (fun v ds' ρ' σ'=>ds' = ds∧R v ρ' σ') rd ds ρ)
def IterF2 (f:Value) (ρ₀:Ro) (ys:List (Value × Value)):Prop :=
  ∃ (k:FuncId) (fn:Func) (caps:List Value),f = .func (.func k) #[] caps.toArray∧Tryz.prog.funcs[k]? = some fn∧(fn.name == "runtime.NumGoroutine") = false∧fn.body.isNone = false ∧
    ∀ (mn:Bool) (X:Frame→List Frame→Ro→Own→Cy→Prop) (l:Nat) (I:List (Value × Value)→Ro→Own→Prop) (ρ:Ro) (σ:Own),Ro.le ρ₀ ρ→(∀ pre ρ ρ' σ,Ro.le ρ ρ'→I pre ρ σ→I pre ρ' σ)→I [] ρ σ →
      (∀ pre x post ρ' σ',ys = pre ++ x :: post→Ro.le ρ ρ'→I pre ρ' σ'→L7e (CX mn X) l x ρ' σ' (fun v ρ'' σ''=>v = .bool true∧Ro.le ρ' ρ''∧I (pre ++ [x]) ρ'' σ'')) →
      CallsH (CX mn X) k (.func (.yield l) #[] #[] :: caps).toArray ρ σ (fun _ ρ' σ'=>Ro.le ρ ρ'∧I ys ρ' σ')
/-- The marks of ranges over functions,as many as there are. -/
abbrev L4m (ms:List Nat):List Deferred:=ms.map fun r=>{ target:=.collected r,args:=#[] }
abbrev L0l (ms:List Nat):Own:=ms.map fun r=>(r,Res.obj (.deferred (some [])))
theorem L2v {C:Ctx} {fn:Func} {rs:List Nat} {e:Env} {ρ:Ro} {R:Value→Ro→Own→Prop} (hr:fn.results = (rs.map ResultVar.tmp).toArray) {σ:Own} (h:R (Abp rs e) ρ σ):∀ (ms:List Nat) (D:Own),(∀ x ∈ D,∃ r o,x = (r,Res.obj o))→Aki C fn (fun v ρ' σ'=>∃ D σ'':Own,(∀ x ∈ D,∃ r o,x = (r,Res.obj o))∧σ' = D ++ σ''∧R v ρ' σ'') e ρ (L4m ms) (D ++ (L0l ms ++ σ))
  | [],D,hD=>Lm (Q:=fun v σ'=>∃ D σ'':Own,(∀ x ∈ D,∃ r o,x = (r,Res.obj o))∧σ' = D ++ σ''∧R v ρ σ'') hr ⟨D,σ,hD,rfl,h⟩
  | m :: ms,D,hD=>by
    refine ⟨m,D.length,rfl,?_,?_⟩
    · rw [List.getElem?_append_right (Nat.le_refl _),Nat.sub_self]; rfl
    · have e1:(D ++ (L0l (m :: ms) ++ σ)).set D.length (m,Res.obj (.deferred none)) = (D ++ [(m,Res.obj (.deferred none))]) ++ (L0l ms ++ σ):=by
        rw [List.set_append_right _ _ (Nat.le_refl _),Nat.sub_self]; simp
      rw [e1]
      exact L2v hr h ms _ fun x hx=>by
        rcases List.mem_append.1 hx with h1 | h1
        · exact hD x h1
        · rw [List.mem_singleton.1 h1]; exact ⟨_,_,rfl⟩
theorem L4z {ρ:Ro}:∀ {D σ:Own},(∀ x ∈ D,∃ r o,x = (r,Res.obj o))→Ghost ρ (D ++ σ) ρ σ
  | [],_,_=>.refl
  | x :: D,σ,h=>by
    obtain ⟨r,o,rfl⟩:=h x (List.mem_cons_self ..)
    exact Ghost.drop.trans (L4z fun y hy=>h y (List.mem_cons_of_mem _ hy))
/-- A call by its body,which leaves marks of ranges over functions. -/
theorem L6x {C:Ctx} {f:FuncId} {fn:Func} {c:Code} {n:Nat} {args:List Value} {ρ:Ro} {σ:Own} {R:Value→Ro→Own→Prop} (rs:List Nat) (hf:C.P.funcs[f]? = some fn) (hc:fn.body = some c) (hn:fn.ntmps = n) (ha:Nat.ble args.length n = true) (hr:fn.results = (rs.map ResultVar.tmp).toArray)
    (h:∀ Q:Hu,(∀ e ρ' σ' ms,R (Abp rs e) ρ' σ'→Q .ret e (L4m ms) ρ' (L0l ms ++ σ'))→(∀ e ρ' σ' ms,R (Abp rs e) ρ' σ'→Q .normal e (L4m ms) ρ' (L0l ms ++ σ'))→WpC C ⟨f,.normal,none⟩ n c Q (Pn args) [] ρ σ):CallsH C f args.toArray ρ σ R:=by
  have h1:CallsH C f args.toArray ρ σ (fun v ρ' σ'=>∃ D σ'':Own,(∀ x ∈ D,∃ r o,x = (r,Res.obj o))∧σ' = D ++ σ''∧R v ρ' σ'') :=
    Oy hf hc hn (Nat.le_of_ble_eq_true ha) (h _ (fun e ρ' σ' ms hR=>⟨fun id h=>(by cases h),L2v hr hR ms [] (by simp)⟩) (fun e ρ' σ' ms hR=>⟨fun id h=>(by cases h),L2v hr hR ms [] (by simp)⟩))
  intro c' cs
  refine (h1 c' cs).bind ?_
  rintro _ _ ρ' σ' ⟨v,rfl,rfl,D,σ'',hD,rfl,hR⟩
  exact .ghost (L4z hD) (.stop ⟨v,rfl,rfl,hR⟩)
theorem IterF2.mono {ρ₀ ρ₁:Ro} {f:Value} {ys:List (Value × Value)} (h:Ro.le ρ₀ ρ₁):IterF2 f ρ₀ ys→IterF2 f ρ₁ ys:=fun ⟨k,fn,caps,h1,h2,h3,h4,h5⟩=>⟨k,fn,caps,h1,h2,h3,h4,fun mn X l I ρ σ hle=>h5 mn X l I ρ σ (h.trans hle)⟩
section
variable {mn:Bool} {X:Frame→List Frame→Ro→Own→Cy→Prop} {b:FB} {n:Nat} {e:Env} {ds:List Deferred} {ρ:Ro} {σ:Own} {K:Value→List Deferred→Ro→Own→Prop} {rd:Option Nat} {dd:Option Tmp}
variable {ty:TypeId} {pos:String} {af:Array Edge} {g:Option (Nat × Bool)} {x y z:Operand} {v v2 p:Value} {t t':TypeId}
end
end Go.Proofs.YtphgjjmlnkgghaaGreatDoor

namespace Go.Proofs.YtphgjjmlnkgghaaGreatDoor
open Go
/-- More may be read,and these blocks are still owned. -/
def leO (ρ₀:Ro) (A:Own):Ro→Own→Prop:=fun ρ' σ'=>Ro.le ρ₀ ρ'∧∀ p ∈ A,p ∈ σ'
def L4g (P:Program) (ρ₀:Ro) (A:Own) (e:Env) (op:Op) (ty:TypeId) (v:Value):Prop :=
  ∀ ρ' σ d pos af g,leO ρ₀ A ρ' σ→wpS P ρ' (execOp (Af e) ⟨d,op,ty,pos,af,g⟩) σ (fun nx σ'=>nx = .value v∧σ' = σ)
theorem Yld.o {P:Program} {ρ₀:Ro} {A:Own} {e:Env} {op:Op} {ty:TypeId} {v:Value} (h:Yld P ρ₀ e op ty v):L4g P ρ₀ A e op ty v:=fun ρ' σ d pos af g hS=>h ρ' σ d pos af g hS.1
theorem L0e {σ:Own}:∀ p ∈ ([]:Own),p ∈ σ:=fun p hp=>by cases hp
theorem L0b {A σ:Own} {x:Nat × Res} (h:∀ p ∈ A,p ∈ σ):∀ p ∈ x :: A,p ∈ x :: σ:=fun p hp=>by
  rcases List.mem_cons.1 hp with rfl | hp
  · exact List.mem_cons_self ..
  · exact List.mem_cons_of_mem _ (h p hp)
theorem L0c {A σ gr:Own} (h:∀ p ∈ A,p ∈ σ):∀ p ∈ gr ++ A,p ∈ gr ++ σ:=fun p hp=>by
  rcases List.mem_append.1 hp with hp | hp
  · exact List.mem_append_left _ hp
  · exact List.mem_append_right _ (h p hp)
theorem L0a {A σ:Own} {x:Nat × Res} (h:∀ p ∈ A,p ∈ σ):∀ p ∈ A,p ∈ x :: σ:=fun p hp=>List.mem_cons_of_mem _ (h p hp)
theorem L0d {A σ gr:Own} (h:∀ p ∈ A,p ∈ σ):∀ p ∈ A,p ∈ gr ++ σ:=fun p hp=>List.mem_append_right _ (h p hp)
section
variable {C:Ctx} {b:FB} {n:Nat} {l₀ rest:List Oper} {Q:Env→List Deferred→Ro→Own→Prop} {e:Env} {ds:List Deferred} {ρ ρ₀ ρ₁:Ro} {σ A:Own} {pz:List Nat} {fuel:Nat}
variable {d i:Nat} {op:Op} {ty:TypeId} {pos:String} {af:Array Edge} {g:Option (Nat × Bool)} {v:Value} {li:List Bool}
theorem L1o {id:Nat} {Q:Hu} (A:Own) (pz:List Nat) (hm:C.P.follows .mixedOrders = true) (hs:Nm n l₀ = true) (hk:b.kind = .normal)
    (h:El C b l₀.toArray (fun e ds ρ σ=>Q .normal e ds ρ σ) pz (leO ρ A) l₀.length (List.replicate l₀.length false).toArray e ds ρ σ):WpC C b n (.region id l₀.toArray true) Q e ds ρ σ :=
  Vk pz (leO ρ A) hm (Ih hs) (by rw [hk]; simp) (by simpa using h)
theorem L2r (hr:Dl l₀ li = []) (h:Q e ds ρ σ):El C b l₀.toArray Q pz (leO ρ₀ A) fuel li.toArray e ds ρ σ:=Aeb (by rw [Hh]; exact hr) h fuel
theorem L0q (li':List Bool) (hli:li.set i true = li') (ht:Py l₀ li pz i = true) (hi:l₀[i]? = some ⟨some d,op,ty,pos,af,g⟩)
    (hS:leO ρ₀ A ρ σ) (hw:Bz l₀.toArray ⟨some d,op,ty,pos,af,g⟩ e = true) (hy:L4g C.P ρ₀ A e op ty v) (h:El C b l₀.toArray Q pz (leO ρ₀ A) fuel li'.toArray (upd e d v) ds ρ σ) :
    El C b l₀.toArray Q pz (leO ρ₀ A) (fuel + 1) li.toArray e ds ρ σ:=by
  obtain ⟨h1,h2,h3,h4⟩:=Wg ht
  refine Vm (by rw [List.getElem?_toArray]; exact hi) h1 h2 h3 h4 (.inl ⟨hw,fun ρ' σ' hS'=>hy ρ' σ' _ _ _ _ hS'⟩) hS ?_
  rw [Mo hli]; exact h
theorem L2j {F:Value→Prop} (li':List Bool) (hli:li.set i true = li') (ht:Py l₀ li pz i = true) (hi:l₀[i]? = some ⟨some d,op,ty,pos,af,g⟩)
    (hS:leO ρ₀ A ρ σ) (hw:Bz l₀.toArray ⟨some d,op,ty,pos,af,g⟩ e = true) (hy:∃ v,F v∧L4g C.P ρ₀ A e op ty v) (h:∀ v,F v→El C b l₀.toArray Q pz (leO ρ₀ A) fuel li'.toArray (upd e d v) ds ρ σ) :
    El C b l₀.toArray Q pz (leO ρ₀ A) (fuel + 1) li.toArray e ds ρ σ:=let ⟨v,h1,h2⟩:=hy; L0q li' hli ht hi hS hw h2 (h v h1)
theorem L4p (li':List Bool) (hli:li.set i true = li') (ht:Py l₀ li pz i = true) (hi:l₀[i]? = some ⟨some d,op,ty,pos,af,g⟩)
    (hS:leO ρ₀ A ρ σ) (hw:Bz l₀.toArray ⟨some d,op,ty,pos,af,g⟩ e = false) (h:El C b l₀.toArray Q pz (leO ρ₀ A) fuel li'.toArray (upd e d undef) ds ρ σ) :
    El C b l₀.toArray Q pz (leO ρ₀ A) (fuel + 1) li.toArray e ds ρ σ:=by
  obtain ⟨h1,h2,h3,h4⟩:=Wg ht
  refine Vm (by rw [List.getElem?_toArray]; exact hi) h1 h2 h3 h4 (.inr ⟨hw,rfl⟩) hS ?_
  rw [Mo hli]; exact h
theorem L4o {ρ':Ro} {σ':Own} (hg:Ghost ρ σ ρ' σ') (hS:leO ρ₀ A ρ σ→leO ρ₀ A ρ' σ') (h:El C b l₀.toArray Q pz (leO ρ₀ A) (fuel + 1) li.toArray e ds ρ' σ'):El C b l₀.toArray Q pz (leO ρ₀ A) (fuel + 1) li.toArray e ds ρ σ:=Aar hg hS h
/-- The one that may come up. -/
theorem L2s (li':List Bool) (hli:li.set i true = li') (hr:Dl l₀ li = [i]) (hi:l₀[i]? = some ⟨some d,op,ty,pos,af,g⟩) (hw:Bz l₀.toArray ⟨some d,op,ty,pos,af,g⟩ e = true)
    (h:wpS C.P ρ (execOp (Af e) ⟨some d,op,ty,pos,af,g⟩) σ (NextH C (fun v ds' ρ' σ'=>leO ρ₀ A ρ' σ'∧El C b l₀.toArray Q pz (leO ρ₀ A) fuel li'.toArray (upd e d v) ds' ρ' σ') b.round ds ρ)) :
    El C b l₀.toArray Q pz (leO ρ₀ A) (fuel + 1) li.toArray e ds ρ σ:=by
  refine Mz ((Hh _ _).trans hr) (by simp) fun j hj=>?_
  rw [List.mem_singleton] at hj; subst hj
  unfold OpH
  simp only [List.getElem?_toArray,hi,Mo hli]
  rw [if_pos hw]
  exact Eu (fun nx σ' hn=>hn.mono fun v ds ρ σ hh=>⟨fun _=>hh.1,hh.2⟩) _ _ h
/-- The one that may come up,and that waits for those that were taken first. -/
theorem L1t (li':List Bool) (hli:li.set i true = li') (hr:Dl l₀ li = [i]) (hl:Pg l₀.toArray pz i = true) (hi:l₀[i]? = some ⟨none,op,ty,pos,af,g⟩) (hw:Bz l₀.toArray ⟨none,op,ty,pos,af,g⟩ e = true)
    (h:wpS C.P ρ (execOp (Af e) ⟨none,op,ty,pos,af,g⟩) σ (NextH C (fun _ ds' ρ' σ'=>El C b l₀.toArray Q pz (leO ρ₀ A) fuel li'.toArray e ds' ρ' σ') b.round ds ρ)) :
    El C b l₀.toArray Q pz (leO ρ₀ A) (fuel + 1) li.toArray e ds ρ σ:=by
  refine Mz ((Hh _ _).trans hr) (by simp) fun j hj=>?_
  rw [List.mem_singleton] at hj; subst hj
  unfold OpH
  simp only [List.getElem?_toArray,hi,Mo hli]
  rw [if_pos hw]
  exact Eu (fun nx σ' hn=>hn.mono fun v ds ρ σ hh=>⟨fun h=>(by rw [hl] at h; cases h),hh⟩) _ _ h
theorem L0j (li':List Bool) (hli:li.set i true = li') (hr:Dl l₀ li = [i]) (hi:l₀[i]? = some ⟨some d,op,ty,pos,af,g⟩) (hS:leO ρ₀ A ρ σ) (hw:Bz l₀.toArray ⟨some d,op,ty,pos,af,g⟩ e = true) (hy:L4g C.P ρ₁ A e op ty v) (hS1:leO ρ₁ A ρ σ)
    (h:El C b l₀.toArray Q pz (leO ρ₀ A) fuel li'.toArray (upd e d v) ds ρ σ):El C b l₀.toArray Q pz (leO ρ₀ A) (fuel + 1) li.toArray e ds ρ σ :=
  L2s li' hli hr hi hw (Eu (by rintro nx σ' ⟨rfl,rfl⟩; exact ⟨hS,h⟩) _ _ (hy ρ σ _ _ _ _ hS1))
theorem L1u {F:Value→Prop} (li':List Bool) (hli:li.set i true = li') (hr:Dl l₀ li = [i]) (hi:l₀[i]? = some ⟨some d,op,ty,pos,af,g⟩) (hS:leO ρ₀ A ρ σ) (hw:Bz l₀.toArray ⟨some d,op,ty,pos,af,g⟩ e = true) (hy:∃ v,F v∧L4g C.P ρ₁ A e op ty v) (hS1:leO ρ₁ A ρ σ)
    (h:∀ v,F v→El C b l₀.toArray Q pz (leO ρ₀ A) fuel li'.toArray (upd e d v) ds ρ σ):El C b l₀.toArray Q pz (leO ρ₀ A) (fuel + 1) li.toArray e ds ρ σ:=let ⟨v,h1,h2⟩:=hy; L0j li' hli hr hi hS hw h2 hS1 (h v h1)
theorem L9a (t:Bool) (h1:t = true→El C b l₀.toArray Q pz (leO ρ₀ A) fuel li.toArray e ds ρ σ) (h0:t = false→El C b l₀.toArray Q pz (leO ρ₀ A) fuel li.toArray e ds ρ σ):El C b l₀.toArray Q pz (leO ρ₀ A) fuel li.toArray e ds ρ σ:=by
  cases t
  · exact h0 rfl
  · exact h1 rfl
end
section
variable {P:Program} {ρ₀:Ro} {A:Own} {e:Env} {ty t t':TypeId} {x:Operand} {v:Value}
theorem L1c {r off:Nat} {c:List Value} {fz:Nat × Nat} (hT:∃ d,P.underlying t = some d∧Qv d = false) (hx:Af e x = .pointer (some ⟨r,off,none⟩)) (hm:(r,Res.obj (.cells c.toArray t' fz)) ∈ A) (hc:c[off]? = some v):L4g P ρ₀ A e (.load t x) ty v:=fun ρ' σ d pos af g hS=>by
  show wpS P ρ' ((Instr.loadAt t (Af e x)).bind fun v=>Sem.pure (Next.value v)) σ _
  rw [Ad,hx]
  show wpS P ρ' (loadVar t ⟨r,off,none⟩) σ _
  show wpS P ρ' ((isAgg t).bind _) σ _
  rw [Ad]
  refine Hi hT ?_
  exact ⟨rfl,rfl,_,v,.inr (hS.2 _ hm),by simpa [Gy] using hc,rfl,rfl⟩
theorem L3q {r off n':Nat} {c cs rs:List Value} {fz:Nat × Nat} (hT:∃ d,P.underlying t = some d∧Qv d = true) (hz:∃ i,P.info? t = some i∧i.size = n') (hx:Af e x = .pointer (some ⟨r,off,none⟩)) (hm:(r,Res.obj (.cells c.toArray t' fz)) ∈ A) (hc:c.drop off = cs ++ rs) (hn:cs.length = n') :
    L4g P ρ₀ A e (.load t x) ty (.agg cs.toArray):=fun ρ' σ d pos af g hS=>by
  show wpS P ρ' ((Instr.loadAt t (Af e x)).bind fun v=>Sem.pure (Next.value v)) σ _
  rw [Ad,hx]
  show wpS P ρ' ((isAgg t).bind _) σ _
  rw [Ad]
  refine Hi hT ?_
  show wpS P ρ' ((sizeOf t).bind fun n=>(loadCells ⟨r,off,none⟩ n).bind _) σ _
  rw [Ad]
  refine Dx hz ?_
  rw [Ad,← hn]
  refine Ff rfl (.inr (hS.2 _ hm)) cs 0 #[] (fun j w hj=>?_) ?_
  · have:(c.drop off)[j]? = some w:=by rw [hc,List.getElem?_append_left]; exact hj; exact (List.getElem?_eq_some_iff.1 hj).1
    rw [List.getElem?_drop] at this
    simpa [Gy] using this
  · have e1:(#[]:Array Value) ++ cs.toArray = cs.toArray:=by simp
    rw [e1]; exact ⟨rfl,rfl⟩
end
/-- A growing slice of sales,but that the sellers of one of them are held elsewhere. -/
def GrowS (ρ:Ro) (v:Value) (xs:List Sale) (i:Nat) (w:Value) (gr:Own):Prop :=
  (∀ p ∈ gr,∃ o,p.2 = Res.obj o)∧xs.length < 2 ^ 60∧∃ r cap ca cc rs gb z,xs[i]? = some z∧v = .slice (some ⟨r,0,none⟩) xs.length cap∧gr = (r,.obj (.cells (ca ++ (.int .i64 z.grams :: w :: cc) ++ rs).toArray 146 (0,0))) :: gb ∧
    I64 z.grams∧ca.length = i * 2∧(∀ (w':Value) (ys:List Int) (ρ':Ro),Ro.le ρ ρ'→Val ρ' w' ys→Rows ρ' (ca ++ (.int .i64 z.grams :: w' :: cc)) (xs.set i ⟨z.grams,ys⟩))∧(ca ++ (.int .i64 z.grams :: w :: cc) ++ rs).length = cap * 2∧xs.length ≤ cap
theorem GrowS.mono {ρ ρ':Ro} {v w:Value} {xs:List Sale} {i:Nat} {gr:Own} (hle:Ro.le ρ ρ') (h:GrowS ρ v xs i w gr):GrowS ρ' v xs i w gr:=by
  obtain ⟨h1,h2,r,cap,ca,cc,rs,gb,z,h3,h4,h5,h6,h7,h8,h9,h10⟩:=h
  exact ⟨h1,h2,r,cap,ca,cc,rs,gb,z,h3,h4,h5,h6,h7,fun w' ys ρ'' hl hv=>h8 w' ys ρ'' (hle.trans hl) hv,h9,h10⟩
section
variable {P:Program} {ρ₀:Ro} {A:Own} {e:Env} {ty t t':TypeId} {x y:Operand} {v w:Value} {xs:List Sale} {i:Nat} {gr:Own}
end
section
variable {C:Ctx} {e:Env} {ds:List Deferred} {ρ:Ro} {σ:Own} {K:Value→List Deferred→Ro→Own→Prop} {rd:Option Nat} {dd:Option Tmp}
variable {ty:TypeId} {pos:String} {af:Array Edge} {g:Option (Nat × Bool)} {x y:Operand} {v w w':Value} {t t':TypeId} {xs:List Sale} {i:Nat} {gr:Own}
end
theorem L1d {P:Program} {ρ₀:Ro} {A:Own} {e:Env} {op:Op} {ty:TypeId} {F:Value→Prop} (h:∃ v,F v∧Yld P ρ₀ e op ty v):∃ v,F v∧L4g P ρ₀ A e op ty v:=let ⟨v,h1,h2⟩:=h; ⟨v,h1,h2.o⟩
theorem L5w {C:Ctx} {b:FB} {l₀:List Oper} {Q:Env→List Deferred→Ro→Own→Prop} {e:Env} {ds:List Deferred} {ρ ρ₀:Ro} {σ σ' A:Own} {pz:List Nat} {fuel:Nat} {li:List Bool} (hp:σ.Perm σ') (h:El C b l₀.toArray Q pz (leO ρ₀ A) (fuel + 1) li.toArray e ds ρ σ'):El C b l₀.toArray Q pz (leO ρ₀ A) (fuel + 1) li.toArray e ds ρ σ :=
  L4o (Asg hp) (fun hS=>⟨hS.1,fun p hm=>hp.mem_iff.1 (hS.2 p hm)⟩) h
section
variable {P:Program} {ρ₀ ρ:Ro} {A:Own} {e:Env} {ty t t':TypeId} {x y:Operand} {v:Value}
end
theorem L2u {α:Type} [Dat α] {C:Ctx} {b:FB} {l₀:List Oper} {Q:Env→List Deferred→Ro→Own→Prop} {e:Env} {ds:List Deferred} {ρ ρ₀:Ro} {σ A:Own} {pz:List Nat} {fuel:Nat} {li:List Bool} {v:Value} {el:TypeId} {xs:List α} {gr:Own} (hg:Grow ρ el v xs gr) (hA:∀ p ∈ A,p ∈ σ)
    (h:∀ ρ',Ro.le ρ ρ'→Val ρ' v xs→El C b l₀.toArray Q pz (leO ρ₀ A) (fuel + 1) li.toArray e ds ρ' σ):El C b l₀.toArray Q pz (leO ρ₀ A) (fuel + 1) li.toArray e ds ρ (gr ++ σ):=by
  rcases hg.2.2 with ⟨h1,h2⟩ | ⟨r,cap,cs,rs,gb,h1,h2,h3,h4,h5⟩
  · refine L4o (Vn hg.1) (fun hS=>⟨hS.1,hA⟩) (h ρ .refl ?_)
    rw [h1,h2]; exact Gx
  · subst h2
    by_cases hb:ρ r = none
    · have hle:Ro.le ρ (ρ.add r (.cells (cs ++ rs).toArray el (0,0))):=fun x ox hx=>by
        unfold Ro.add; rw [if_neg (fun e=>by rw [e,hb] at hx; cases hx)]; exact hx
      show El C b l₀.toArray Q pz (leO ρ₀ A) (fuel + 1) li.toArray e ds ρ ((r,_) :: (gb ++ σ))
      exact L4o ((Ghost.freeze hb).trans (Vn fun p hp=>hg.1 p (List.mem_cons_of_mem _ hp))) (fun hS=>⟨hS.1.trans hle,hA⟩) (h _ hle (Grow.val (rs:=rs) (el:=el) hg.2.1 h1 (h3.mono hle) h5 (by simp [Ro.add])))
    · exact .inl fun W hs=>absurd (hs.dj r (List.mem_cons_self ..)) hb
end Go.Proofs.YtphgjjmlnkgghaaGreatDoor
