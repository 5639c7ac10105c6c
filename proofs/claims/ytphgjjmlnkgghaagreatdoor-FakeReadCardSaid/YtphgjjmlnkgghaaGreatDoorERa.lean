/- The proof of fakeRead_holds, beyond what all laws of layer 8 need. -/
import Derived.Test.YtphgjjmlnkgghaaGreatDoorB4
import Derived.Carry
import Derived.ChangeArms
import Derived.ChangeSame
import Derived.ChangeVars
import Derived.Conc.Holds
import Derived.Conc.LeavingOf
import Derived.FnData
import Derived.LaidHandle
import Derived.LaidLaws
import Derived.LaidMore
import Derived.Laws.BitsAllLaws
import Derived.Laws.BitsLemmas
import Derived.OpenShut
import Derived.RowKit
import Derived.SizedLaws
import Derived.Stop.Joined
import Derived.Test.YtphgjjmlnkgghaaGreatDoorRows
import Derived.WideShapes
set_option linter.unusedVariables false
set_option linter.unusedSimpArgs false
namespace Go.Proofs.YtphgjjmlnkgghaaGreatDoor
open Go
section
variable {C:Ctx} {b:FB} {n:Nat} {l₀ rest:List Oper} {Q:Env→List Deferred→Ro→Own→Prop} {e:Env} {ds:List Deferred} {ρ:Ro} {σ:Own}
end
section
variable {P:Program} {ρ:Ro} {e:Env} {ty t t':TypeId} {x y:Operand} {v:Value}
theorem L4y {op:BinOp} {p q:ByteArray}:eqGuard op t x y (.string p) (.string q) = pure ():=by
  cases op <;> rfl
section
variable {k:IntKind} {p q:Int}
end
end
section
variable {C:Ctx} {b:FB} {n:Nat} {l₀:List Oper} {Q:Env→List Deferred→Ro→Own→Prop} {e:Env} {ds:List Deferred} {ρ ρ₀:Ro} {σ:Own} {pz:List Nat} {fuel:Nat} {listed:Array Bool}
section
variable {d i:Nat} {op:Op} {ty:TypeId} {pos:String} {af:Array Edge} {g:Option (Nat × Bool)} {v:Value} {li:List Bool}
end
end
end Go.Proofs.YtphgjjmlnkgghaaGreatDoor

namespace Go.Proofs.YtphgjjmlnkgghaaGreatDoor
open Go
section
variable {α:Type} [Dat α] {ρ ρ':Ro}
end
section
variable {P:Program} {ρ:Ro} {σ:Own} {t:TypeId}
end
section
variable {C:Ctx} {b:FB} {n:Nat} {l₀ rest:List Oper} {Q:Env→List Deferred→Ro→Own→Prop} {e:Env} {ds:List Deferred} {ρ:Ro} {σ:Own}
variable {d:Nat} {ty:TypeId} {pos:String} {af:Array Edge} {g:Option (Nat × Bool)} {x y:Operand} {v p:Value} {t:TypeId}
/-- A slice's part. -/
theorem L6y {α:Type} [Dat α] {xs:List α} {a:Option Addr} {len cap h:Nat} (hv:Val ρ (.slice a len cap) xs) (hh:h ≤ len):Val ρ (.slice (if cap = 0 then a else a.map (·.add (0 * Dat.k α))) (h - 0) (cap - 0)) (xs.take h):=by
  obtain ⟨a',len',cap',h1,h2,h3,h4,h5⟩:=Cs.1 hv
  cases h1
  refine Cs.2 ⟨a,h,cap,?_,by simp; omega,by omega,by omega,fun i x hx=>?_⟩
  · congr 1
    split
    · rfl
    · cases a with
      | none=>rfl
      | some ad=>simp [Addr.add]
  · rw [List.getElem?_take] at hx
    split at hx
    · exact h5 i x hx
    · cases hx
theorem L5k {P:Program} {α:Type} [Dat α] {xs:List α} {el:TypeId} {k:IntKind} {q:Int} (h:Nat) (hT:P.underlying t = some (.slice el)) (hE:GoTy P el α) (hx:Af e x = v) (hv:Val ρ v xs) (hy:Af e y = .int k q) (hq:q = (h:Int)) (hh:h ≤ xs.length) :
    ∃ w,Val ρ w (xs.take h)∧Yld P ρ e (.slice t x none (some y) none) ty w:=by
  obtain ⟨a,len,cap,h1,h2,h3,h4,h5⟩:=Cs.1 hv
  subst h1
  refine ⟨_,L6y hv (by omega),Mt (s:=Instr.sliceAt t (Af e x) none (some (Af e y)) none) (fun _ _ _ _=>rfl) fun ρ' σ _=>?_⟩
  rw [hx,hy,hq]
  show wpS P ρ' ((underlying t).bind _) σ _
  rw [Ad]
  refine Az hT ?_
  show wpS P ρ' ((underlying t).bind _) σ _
  rw [Ad]
  refine Az hT ?_
  simp only []
  show wpS P ρ' ((Instr.sliceBounds true len cap none (some (.int k h)) none).bind _) σ _
  have hb:Instr.sliceBounds true len cap none (some (.int k (h:Int))) none = pure (0,h,cap):=by
    show (do let m ← pure cap; let hh ← Instr.sliceBound (.int k (h:Int)) m _; let l ← pure 0; pure (l,hh,m):Sem _) = _
    have:Instr.sliceBound (.int k (h:Int)) cap .sliceAcap = pure h:=by
      show (if 0 ≤ (h:Int)∧(h:Int) ≤ cap then pure (h:Int).toNat else _) = _
      rw [if_pos (by omega)]; simp
    show (Instr.sliceBound (.int k (h:Int)) cap .sliceAcap).bind _ = _
    rw [this]; rfl
  rw [hb]
  show wpS P ρ' ((sizeOf el).bind _) σ _
  rw [Ad]
  exact Dx hE.info ⟨rfl,rfl⟩
end
end Go.Proofs.YtphgjjmlnkgghaaGreatDoor

namespace Go.Proofs.YtphgjjmlnkgghaaGreatDoor
open Go
section
variable {C:Ctx} {b:FB} {n:Nat} {l₀ rest:List Oper} {Q:Env→List Deferred→Ro→Own→Prop} {Q':Hu} {e:Env} {ds:List Deferred} {ρ:Ro} {σ:Own}
variable {d:Nat} {ty:TypeId} {pos:String} {af:Array Edge} {g:Option (Nat × Bool)} {x y:Operand} {v p:Value} {t t':TypeId}
section
variable {P:Program}
theorem L7f {k:IntKind} {p q z:Int} (hx:Af e x = .int k p) (hy:Af e y = .int k q) (h0:q ≠ 0) (hz:p.tmod q = z):Yld P ρ e (.binOp .rem t x y t') ty (.int k z) :=
  La hx hy Dh (by subst hz; simp only [binOp]; rw [if_neg (by simp)]; unfold Op.intDiv; rw [if_neg h0])
theorem L8g {k:IntKind} {p q z:Int} (hx:Af e x = .int k p) (hy:Af e y = .int k q) (h0:q ≠ 0) (hz:k.wrap (p.tdiv q) = z):Yld P ρ e (.binOp .quo t x y t') ty (.int k z) :=
  La hx hy Dh (by subst hz; simp only [binOp]; rw [if_neg (by simp)]; unfold Op.intDiv; rw [if_neg h0])
end
section
variable {P:Program}
theorem L5y {p q:ByteArray} (hx:Af e x = .string p) (hy:Af e y = .string q):Yld P ρ e (.binOp .eql t x y t') ty (.bool (p.toList == q.toList)):=La hx hy L4y (by simp only [binOp]; rfl)
end
theorem L3f {α:Type} [Dat α] {a:α} {v:Value} {r:Nat} {fz:Nat × Nat} {t:TypeId} {pz:List Nat} {ρ₀:Ro} {fuel:Nat} {li:List Bool} (hv:Val ρ v a)
    (h:∀ ρ',Ro.le ρ ρ'→At ρ' (.pointer (some ⟨r,0,none⟩)) a→El C b l₀.toArray Q pz (leS ρ₀) (fuel + 1) li.toArray e ds ρ' σ):El C b l₀.toArray Q pz (leS ρ₀) (fuel + 1) li.toArray e ds ρ ((r,.obj (.cells v.cells t fz)) :: σ) :=
  Agi fun ρ' hle hr=>h ρ' hle (Ago hv hle hr)
end
end Go.Proofs.YtphgjjmlnkgghaaGreatDoor

namespace Go.Proofs.YtphgjjmlnkgghaaGreatDoor
open Go Go.WideShapes
theorem L5a {n:Nat} (h:n ≤ reachBytes):n < 2 ^ 60:=by unfold reachBytes at h; omega
theorem L2l {t:TypeId} (ht:Tryz.prog.underlying t = some (.int .i64)) (hc:Tryz.prog.cellsOf t = 1):Api Int t :=
  ⟨hc,fun H enc W fuel cs x h _=>by
    obtain ⟨n,h1,_,h3⟩:=DataW.trod_int ht h
    refine ⟨n,h1,?_⟩
    simp [Lit.wf,IntKind.min,IntKind.max,IntKind.signed,IntKind.bits] at h3
    exact ⟨by omega,by omega⟩⟩
theorem L5q {t:TypeId} (ht:Tryz.prog.underlying t = some .string) (hc:Tryz.prog.cellsOf t = 1):Api ByteArray t :=
  ⟨hc,fun H enc W fuel cs x h hw=>by
    obtain ⟨s,h1,h2,_⟩:=DataW.trod_string ht h
    refine ⟨s,h1,L5a ?_⟩
    have:=hw s.data.toList.length (by rw [h2]; simp [DataW.weights])
    simpa using this⟩
theorem L5u {α:Type} {P:Nat→α→Prop}:∀ n,(∀ i,i < n→∃ a,P i a)→∃ xs:List α,xs.length = n∧∀ i x,xs[i]? = some x→P i x
  | 0,_=>⟨[],rfl,fun i x h=>by cases h⟩
  | n + 1,h=>by
    obtain ⟨xs,h1,h2⟩:=L5u n fun i hi=>h i (by omega)
    obtain ⟨a,ha⟩:=h n (by omega)
    refine ⟨xs ++ [a],by simp [h1],fun i x hx=>?_⟩
    rcases Nat.lt_or_ge i n with hlt | hge
    · rw [List.getElem?_append_left (by omega)] at hx; exact h2 i x hx
    · have hi:i = n:=by
        have:=(List.getElem?_eq_some_iff.1 hx).1
        simp only [List.length_append,List.length_singleton] at this; omega
      subst hi
      rw [List.getElem?_append_right (by omega),h1,Nat.sub_self] at hx
      cases hx; exact ha
theorem L7v {a:Addr}:a.add 0 = a:=by simp [Addr.add]
theorem L4t {b off i:Nat}:(⟨b,off,none⟩:Addr).add i = ⟨b,off + i,none⟩:=by
  unfold Addr.add; split
  · rename_i h; subst h; rfl
  · rfl
theorem L4e {W:World} {a:Addr} {k:Nat} {cs:List Value} (hk:1 ≤ k) (h:W.cells? 0 a k = some cs):∃ b off c t fz rest,a = ⟨b,off,none⟩∧W.heap[b]? = some (.cells c t fz)∧c.toList.drop off = cs ++ rest∧cs.length = k:=by
  unfold World.cells? at h
  rw [if_pos (Nat.zero_le _)] at h
  have hl:=mapM_some_length h
  rw [List.length_range] at hl
  have hg:∀ j,j < k→W.cell? (a.add j) = cs[j]?:=fun j hj=>mapM_some_get h j j (by rw [List.getElem?_range hj])
  obtain ⟨b,off,spot⟩:=a
  have h0:=hg 0 hk
  rw [L7v] at h0
  obtain ⟨v,hv⟩:∃ v,cs[0]? = some v:=⟨_,List.getElem?_eq_getElem (by omega)⟩
  rw [hv] at h0
  unfold World.cell? at h0
  simp only at h0
  cases hb:W.heap[b]? with
  | none=>rw [hb] at h0; cases h0
  | some o =>
    cases o with
    | cells c t fz =>
      rw [hb] at h0
      simp only at h0
      cases spot with
      | some s=>simp at h0
      | none =>
        refine ⟨b,off,c,t,fz,(c.toList.drop off).drop k,rfl,hb,?_,hl⟩
        have e1:(c.toList.drop off).take k = cs:=by
          apply List.ext_getElem?
          intro j
          rw [List.getElem?_take]
          by_cases hj:j < k
          · rw [if_pos hj,← hg j hj,List.getElem?_drop,L4t]
            unfold World.cell?
            simp only [hb]
            simp
          · rw [if_neg hj,List.getElem?_eq_none (by omega)]
        rw [← e1,List.take_append_drop]
    | _=>rw [hb] at h0; cases h0
theorem L2d {H:Type} {P:Program} {e:TypeId}:∀ {ds:List (DataW H)} {d:DataW H} {n:Nat},d ∈ ds→n ∈ d.weights P e→n ∈ DataW.weightsAll P e ds
  | [],_,_,h,_=>by cases h
  | d' :: ds,d,n,h,hn=>by
    rw [DataW.weightsAll,List.mem_append]
    rcases List.mem_cons.1 h with rfl | h
    · exact .inl hn
    · exact .inr (L2d h hn)
theorem L1i {α:Type} [Dat α] {t e:TypeId} (ht:Tryz.prog.underlying t = some (.slice e)) (hc:Tryz.prog.cellsOf t = 1) (hb:1 ≤ Tryz.prog.bytesOf e) (hk:1 ≤ Dat.k α) (he:Api α e):Api (List α) t :=
  ⟨hc,fun H enc W fuel cs x h hw=>by
    rcases DataW.trod_slice ht h with ⟨h1,_⟩ | ⟨a,len,cap,Av,rest,n,_,h2,h3,_,h5,_,h6,h7,_,_⟩
    · exact ⟨[],_,h1,none,0,0,rfl,rfl,by omega,Nat.le_refl _,fun i x hx=>by cases hx⟩
    · rw [h3] at hw
      simp only [DataW.weights,ht] at hw
      have hlen:len < 2 ^ 60:=by
        have:=hw _ (List.mem_cons_self ..)
        simp only [List.length_map] at this
        refine L5a (Nat.le_trans ?_ this)
        rw [h6]
        exact Nat.le_trans (Nat.le_trans (Nat.le_add_right _ _) (Nat.le_of_eq (Nat.mul_one _).symm)) (Nat.mul_le_mul_left _ hb)
      obtain ⟨xs,hx1,hx2⟩:=L5u (P:=fun i (y:α)=>∃ cs,W.cells? 0 (a.add (i * Tryz.prog.cellsOf e)) (Tryz.prog.cellsOf e) = some cs∧Dat.rep (roW W) cs y) len fun i hi=>by
        have h8:=h7 i hi
        obtain ⟨y,hy⟩:∃ y,Av[i]? = some y:=⟨_,List.getElem?_eq_getElem (by omega)⟩
        rw [hy,Option.bind_eq_some_iff] at h8
        obtain ⟨ci,hc1,hc2⟩:=h8
        obtain ⟨z,hz⟩:=he.2 H enc W n ci y hc2 fun m hm=>hw m (List.mem_cons_of_mem _ (List.mem_append_left _ (L2d (List.mem_map_of_mem (List.mem_of_getElem? hy)) hm)))
        exact ⟨z,ci,hc1,hz⟩
      refine ⟨xs,_,h2,some a,len,cap,rfl,hx1,hlen,h5,fun i y hy=>?_⟩
      obtain ⟨b',off',rfl⟩:∃ b' off',a = ⟨b',off',none⟩:=by
        have hi:=(List.getElem?_eq_some_iff.1 hy).1
        obtain ⟨y0,hy0⟩:∃ y0,xs[0]? = some y0:=⟨_,List.getElem?_eq_getElem (by omega)⟩
        obtain ⟨ci,hc1,_⟩:=hx2 0 y0 hy0
        rw [he.1,Nat.zero_mul,L7v] at hc1
        obtain ⟨b,off,_,_,_,_,h8,_⟩:=L4e hk hc1
        exact ⟨b,off,h8⟩
      obtain ⟨ci,hc1,hc2⟩:=hx2 i y hy
      rw [he.1,L4t] at hc1
      obtain ⟨b,off,c,t',fz,rs,h8,h9,h10,_⟩:=L4e hk hc1
      simp only [Addr.mk.injEq,and_true] at h8
      obtain ⟨rfl,rfl⟩:=h8
      exact ⟨b',off',rfl,b',_,c,t',fz,ci,rs,rfl,Vz h9,hc2,h10⟩⟩
theorem L2p (cs:List Value) (a k:Nat):cs.drop a = (cs.drop a).take k ++ cs.drop (a + k):=by rw [← List.drop_drop,List.take_append_drop]
theorem L0w {H:Type} {enc:TypeId × Value→H} {W:World} {n:Nat} {cs:List Value} {xs:List (DataW H × List MemPlace)} {fs:Array Field} {t:TypeId} (ht:Tryz.prog.underlying t = some (.struct fs)) (hl:xs.length = fs.size) (h:∀ (i:Nat) (f:Field),fs[i]? = some f→DataW.trod enc Tryz.prog W 0 (fun _=>true) true n f.type ((cs.drop f.offset).take (Tryz.prog.cellsOf f.type)) = xs[i]?)
    (hw:∀ m ∈ (DataW.agg (xs.map (·.1)):DataW H).weights Tryz.prog t,m ≤ reachBytes) {α:Type} [Dat α] {i ft off:Nat} {f:Field} (hf:fs[i]? = some f) (h1:f.type = ft) (h2:f.offset = off) (hd:Api α ft):∃ a:α,Dat.rep (roW W) ((cs.drop off).take (Dat.k α)) a:=by
  subst h1 h2
  have hi:=(Array.getElem?_eq_some_iff.1 hf).1
  obtain ⟨y,hy⟩:∃ y,xs[i]? = some y:=⟨_,List.getElem?_eq_getElem (by omega)⟩
  have h3:=h i f hf
  rw [hy,hd.1] at h3
  refine hd.2 H enc W n _ y h3 fun m hm=>hw m ?_
  simp only [DataW.weights,ht]
  exact DataW.weights_mem_each (j:=i) (t:=f.type) (d:=y.1) (by simp [Array.getElem?_toList,hf]) (by simp [hy]) m hm
theorem L6s:Api Span 41:=⟨by kernel_rfl,fun H enc W fuel cs x h hw=>by
  obtain ⟨xs,n,_,rfl,hcl,hl,hf⟩:=DataW.trod_struct Tryz.underlying41 h
  rw [show Tryz.prog.cellsOf 41 = 2 from by kernel_rfl] at hcl
  obtain ⟨a0,r0⟩:=L0w (i:=0) Tryz.underlying41 hl hf hw rfl rfl (show _ = 0 from rfl) (L2l Tryz.underlying3 (by kernel_rfl))
  obtain ⟨a1,r1⟩:=L0w (i:=1) Tryz.underlying41 hl hf hw rfl rfl (show _ = 1 from rfl) (L2l Tryz.underlying3 (by kernel_rfl))
  refine ⟨⟨a0,a1⟩,?_⟩
  have e0:cs = cs.drop 0:=rfl
  rw [e0]
  exact ⟨(cs.drop 0).take 1,cs.drop 1,(L2p cs 0 1).trans (by rfl),r0,(show Dat.rep (roW W) (cs.drop 1) a1 from by (have:=r1; rw [List.take_of_length_le (by rw [List.length_drop,hcl]; decide)] at this; exact this))⟩⟩
end Go.Proofs.YtphgjjmlnkgghaaGreatDoor

namespace Go.Proofs.YtphgjjmlnkgghaaGreatDoor
open Go Go.WideShapes Go.ChangeShapes Go.RowKit Go.Conc
section
variable {H:Type} {enc:TypeId × Value→H} {W:World} {r:Reach} {base t:Nat} {v:Value} {d:DataW H} {p:List MemPlace}
end
theorem L1y {H:Type} {P:Program} {ts:List TypeId} {ds:List (DataW H)} (h:(DataW.weightsEach P ts ds).all (· ≤ reachBytes) = true) {j:Nat} {t:TypeId} {d:DataW H} (ht:ts[j]? = some t) (hd:ds[j]? = some d):∀ n ∈ d.weights P t,n ≤ reachBytes:=fun n hn=>by
  have:=List.all_eq_true.1 h _ (DataW.weights_mem_each ht hd n hn)
  simpa using this
end Go.Proofs.YtphgjjmlnkgghaaGreatDoor

namespace Go.Proofs.YtphgjjmlnkgghaaGreatDoor
open Go
theorem L5x {s:ByteArray}:(List.range s.size).all (Alm s) = true↔∀ j,j < s.size→Alm s j = true:=by simp
theorem L3b {s:ByteArray} {j:Nat} (h:j < s.size) (h0:Alm s j = false):(List.range s.size).all (Alm s) = false:=by
  cases hh:(List.range s.size).all (Alm s) with
  | false=>rfl
  | true=>rw [L5x.1 hh j h] at h0; cases h0
end Go.Proofs.YtphgjjmlnkgghaaGreatDoor

namespace Go.Proofs.YtphgjjmlnkgghaaGreatDoor
set_option maxHeartbeats 1000000
open Go
set_option maxRecDepth 100000 in
theorem L4f {mn:Bool} {X:Frame→List Frame→Ro→Own→Cy→Prop} {ρ:Ro} {σ:Own} {n low high:Int} :CallsH (CX mn X) 52 #[(iV (n)),(iV (low)),(iV (high))] ρ σ (fun w ρ' σ'=>ρ' = ρ∧σ' = σ∧w = (.bool (inR n low high))):=by
 refine Bh (n:=15) (args:=[(iV (n)),(iV (low)),(iV (high))]) [6] Tryz.func52 rfl rfl rfl rfl fun Q hret hnor=>?_
 refine w_q rfl rfl fun K1 k1=>?_
 refine l_v (Cp (v:=(.bool (false))) rfl) ?_
 refine Arx rfl rfl k1 fun K2 k2=>?_
 refine l_v (Ah (v:=(iV (low))) rfl) ?_
 refine l_v (Ah (v:=(iV (n))) rfl) ?_
 refine l_v (Uz rfl rfl) ?_
 refine l_v (Ah (v:=(.bool (decide (low ≤ n)))) rfl) ?_
 refine Cn (decide (low ≤ n)) (fun b3=>?_) (fun b3=>?_)
 ·have q3:=of_decide_eq_true b3
  refine l_M (iV (n)) (Ar rfl rfl rfl b3) rfl ?_
  refine l_M (iV (high)) (Ar rfl rfl rfl b3) rfl ?_
  refine Aa (Ar rfl rfl rfl b3) (Uz rfl rfl) ?_
  refine l_v (Bt rfl b3 (v:=(.bool (decide (n ≤ high)))) rfl) ?_
  refine l_v (Cp (v:=(.bool (decide (n ≤ high)))) rfl) ?_
  refine l_k k2 ?_
  refine Aq ?_
  refine hret _ _ _ ⟨rfl,rfl,Eq.trans (b:=(.bool (decide (n ≤ high)))) rfl ?_⟩
  simp only [inR,b3,Bool.true_and,Bool.false_and,Bool.and_true,Bool.and_false,Bool.true_or,Bool.false_or,Bool.or_true,Bool.or_false,Bool.not_true,Bool.not_false]
 have q3:=of_decide_eq_false b3
 refine Ap (Bl rfl rfl rfl b3) ?_
 refine Ap (Bl rfl rfl rfl b3) ?_
 refine Ap (Bl rfl rfl rfl b3) ?_
 refine l_v (Bn rfl b3 (v:=(.bool (false))) rfl) ?_
 refine l_v (Cp (v:=(.bool (false))) rfl) ?_
 refine l_k k2 ?_
 refine Aq ?_
 refine hret _ _ _ ⟨rfl,rfl,Eq.trans (b:=(.bool (false))) rfl ?_⟩
 simp only [inR,b3,Bool.true_and,Bool.false_and,Bool.and_true,Bool.and_false,Bool.true_or,Bool.false_or,Bool.or_true,Bool.or_false,Bool.not_true,Bool.not_false]
set_option maxRecDepth 100000 in
theorem L2k {mn:Bool} {X:Frame→List Frame→Ro→Own→Cy→Prop} {ρ:Ro} {σ:Own} {x:Span} {vx:Value} {low high:Int} (rx:Val ρ vx x):CallsH (CX mn X) 33 #[vx,(iV (low)),(iV (high))] ρ σ (fun w ρ' σ'=>ρ' = ρ∧σ' = σ∧w = (.bool (Ef x low high))):=by
 refine Bh (n:=24) (args:=[vx,(iV (low)),(iV (high))]) [6] Tryz.func33 rfl rfl rfl rfl fun Q hret hnor=>?_
 refine w_q rfl rfl fun K1 k1=>?_
 refine Arv (Eb (v:=vx) rfl fun k2=>?_)
 refine Bb (a:=x) rx fun ρ2 l2 r2=>?_
 refine l_v (Cp (v:=(.bool (false))) rfl) ?_
 refine Arx rfl rfl k1 fun K3 k3=>?_
 refine l_v (Ah (v:=(iV (low))) rfl) ?_
 refine Arw (Ay Span.f_low Tryz.underlying41 rfl rfl ty3 (by decide) rfl r2) fun v4 r4=>?_
 have ⟨g5a,g5b⟩:=At.rng r4
 refine l_v (Bc ty3 rfl r4) ?_
 refine l_v (Uz rfl rfl) ?_
 refine l_v (Ah (v:=(.bool (decide (low ≤ x.low)))) rfl) ?_
 refine Cn (decide (low ≤ x.low)) (fun b6=>?_) (fun b6=>?_)
 ·have q6:=of_decide_eq_true b6
  refine Ak (Ar rfl rfl rfl b6) (Ay Span.f_low Tryz.underlying41 rfl rfl ty3 (by decide) rfl r2) fun v7 r7=>?_
  have ⟨g8a,g8b⟩:=At.rng r7
  refine Aa (Ar rfl rfl rfl b6) (Bc ty3 rfl r7) ?_
  refine Ak (Ar rfl rfl rfl b6) (Ay Span.f_high Tryz.underlying41 rfl rfl ty3 (by decide) rfl r2) fun v9 r9=>?_
  have ⟨g10a,g10b⟩:=At.rng r9
  refine Aa (Ar rfl rfl rfl b6) (Bc ty3 rfl r9) ?_
  refine Aa (Ar rfl rfl rfl b6) (Uz rfl rfl) ?_
  refine l_v (Bt rfl b6 (v:=(.bool (decide (x.low ≤ x.high)))) rfl) ?_
  refine l_v (Ah (v:=(.bool (decide (x.low ≤ x.high)))) rfl) ?_
  refine Cn (decide (x.low ≤ x.high)) (fun b11=>?_) (fun b11=>?_)
  ·have q11:=of_decide_eq_true b11
   refine Ak (Ar rfl rfl rfl b11) (Ay Span.f_high Tryz.underlying41 rfl rfl ty3 (by decide) rfl r2) fun v12 r12=>?_
   have ⟨g13a,g13b⟩:=At.rng r12
   refine Aa (Ar rfl rfl rfl b11) (Bc ty3 rfl r12) ?_
   refine l_M (iV (high)) (Ar rfl rfl rfl b11) rfl ?_
   refine Aa (Ar rfl rfl rfl b11) (Uz rfl rfl) ?_
   refine l_v (Bt rfl b11 (v:=(.bool (decide (x.high ≤ high)))) rfl) ?_
   refine l_v (Cp (v:=(.bool (decide (x.high ≤ high)))) rfl) ?_
   refine l_k k3 ?_
   refine Aj (Asf l2) ?_
   refine Aq ?_
   refine hret _ _ _ ⟨rfl,rfl,Eq.trans (b:=(.bool (decide (x.high ≤ high)))) rfl ?_⟩
   simp only [Ef,b6,b11,Bool.true_and,Bool.false_and,Bool.and_true,Bool.and_false,Bool.true_or,Bool.false_or,Bool.or_true,Bool.or_false,Bool.not_true,Bool.not_false]
  have q11:=of_decide_eq_false b11
  refine Ap (Bl rfl rfl rfl b11) ?_
  refine Ap (Bl rfl rfl rfl b11) ?_
  refine Ap (Bl rfl rfl rfl b11) ?_
  refine Ap (Bl rfl rfl rfl b11) ?_
  refine l_v (Bn rfl b11 (v:=(.bool (false))) rfl) ?_
  refine l_v (Cp (v:=(.bool (false))) rfl) ?_
  refine l_k k3 ?_
  refine Aj (Asf l2) ?_
  refine Aq ?_
  refine hret _ _ _ ⟨rfl,rfl,Eq.trans (b:=(.bool (false))) rfl ?_⟩
  simp only [Ef,b6,b11,Bool.true_and,Bool.false_and,Bool.and_true,Bool.and_false,Bool.true_or,Bool.false_or,Bool.or_true,Bool.or_false,Bool.not_true,Bool.not_false]
 have q6:=of_decide_eq_false b6
 refine Ap (Bl rfl rfl rfl b6) ?_
 refine Ap (Bl rfl rfl rfl b6) ?_
 refine Ap (Bl rfl rfl rfl b6) ?_
 refine Ap (Bl rfl rfl rfl b6) ?_
 refine Ap (Bl rfl rfl rfl b6) ?_
 refine l_v (Bn rfl b6 (v:=(.bool (false))) rfl) ?_
 refine l_v (Ah (v:=(.bool (false))) rfl) ?_
 refine Ap (Bl rfl rfl rfl rfl) ?_
 refine Ap (Bl rfl rfl rfl rfl) ?_
 refine Ap (Bl rfl rfl rfl rfl) ?_
 refine Ap (Bl rfl rfl rfl rfl) ?_
 refine l_v (Bn rfl rfl (v:=(.bool (false))) rfl) ?_
 refine l_v (Cp (v:=(.bool (false))) rfl) ?_
 refine l_k k3 ?_
 refine Aj (Asf l2) ?_
 refine Aq ?_
 refine hret _ _ _ ⟨rfl,rfl,Eq.trans (b:=(.bool (false))) rfl ?_⟩
 simp only [Ef,b6,Bool.true_and,Bool.false_and,Bool.and_true,Bool.and_false,Bool.true_or,Bool.false_or,Bool.or_true,Bool.or_false,Bool.not_true,Bool.not_false]
set_option maxRecDepth 100000 in
theorem L4g {mn:Bool} {X:Frame→List Frame→Ro→Own→Cy→Prop} {ρ:Ro} {σ:Own} {s:ByteArray} :CallsH (CX mn X) 51 #[(.string (s))] ρ σ (fun w ρ' σ'=>ρ' = ρ∧σ' = σ∧w = (.bool (Hg s))):=by
 refine Bh (n:=46) (args:=[(.string (s))]) [2] Tryz.func51 rfl rfl rfl rfl fun Q hret hnor=>?_
 refine w_q rfl rfl fun K1 k1=>?_
 refine l_v (Cp (v:=(.bool (false))) rfl) ?_
 refine Ary rfl rfl k1 fun K2 K3 k2 k3=>?_
 refine l_v (Ah (v:=(.string (s))) rfl) ?_
 refine l_v (Afz Tryz.underlying9 (s:=s) rfl) ?_
 refine Arv (Bm (L4f) Tryz.func52 rfl rfl ⟨rfl,rfl,rfl,trivial⟩ ?_)
 refine l_v (Iy rfl) ?_
 refine l_v (Ah (v:=(.bool (!(inR (((s.size:Nat):Int)) 1 14)))) rfl) ?_
 refine Cn (!(inR (((s.size:Nat):Int)) 1 14)) (fun b4=>?_) (fun b4=>?_)
 ·have b5:=not_eq_t b4
  have q5:=Tr.1 b5
  refine Ap (Bl rfl rfl rfl b4) ?_
  refine Ap (Bl rfl rfl rfl b4) ?_
  refine Ap (Bl rfl rfl rfl b4) ?_
  refine l_v (Bt rfl b4 (v:=(.bool (true))) rfl) ?_
  refine l_v (Ah (v:=(.bool (true))) rfl) ?_
  refine Ap (Bl rfl rfl rfl rfl) ?_
  refine Ap (Bl rfl rfl rfl rfl) ?_
  refine Ap (Bl rfl rfl rfl rfl) ?_
  refine l_v (Bt rfl rfl (v:=(.bool (true))) rfl) ?_
  refine l_k k3 ?_
  refine Co rfl rfl ?_
  refine w_q rfl rfl fun K6 k6=>?_
  refine l_v (Cp (v:=(.bool (false))) rfl) ?_
  refine l_k k6 ?_
  refine Aq ?_
  refine hret _ _ _ ⟨rfl,rfl,Eq.trans (b:=(.bool (false))) rfl ?_⟩
  simp only [Hg,Qb,b4,b5,Bool.true_and,Bool.false_and,Bool.and_true,Bool.and_false,Bool.true_or,Bool.false_or,Bool.or_true,Bool.or_false,Bool.not_true,Bool.not_false]
 have b7:=not_eq_f b4
 have q7:=Fz.1 b7
 refine l_M (.string (s)) (Ar rfl rfl rfl b4) rfl ?_
 obtain ⟨c8,hc8⟩:=Alc (s:=s) (i:=0) (by omega)
 refine Aa (Ar rfl rfl rfl b4) (Ace 0 c8 Tryz.underlying9 rfl (q:=0) rfl rfl hc8) ?_
 refine Aa (Ar rfl rfl rfl b4) (Da rfl rfl) ?_
 refine l_v (Bn rfl b4 (v:=(.bool (decide (((c8.toNat:Nat):Int) < 97)))) rfl) ?_
 refine l_v (Ah (v:=(.bool (decide (((c8.toNat:Nat):Int) < 97)))) rfl) ?_
 refine Cn (decide (((c8.toNat:Nat):Int) < 97)) (fun b9=>?_) (fun b9=>?_)
 ·have q9:=of_decide_eq_true b9
  refine Ap (Bl rfl rfl rfl b9) ?_
  refine Ap (Bl rfl rfl rfl b9) ?_
  refine Ap (Bl rfl rfl rfl b9) ?_
  refine l_v (Bt rfl b9 (v:=(.bool (true))) rfl) ?_
  refine l_k k3 ?_
  refine Co rfl rfl ?_
  refine w_q rfl rfl fun K10 k10=>?_
  refine l_v (Cp (v:=(.bool (false))) rfl) ?_
  refine l_k k10 ?_
  refine Aq ?_
  refine hret _ _ _ ⟨rfl,rfl,Eq.trans (b:=(.bool (false))) rfl ?_⟩
  simp only [Hg,Qb,hc8,b4,b7,b9,Bool.true_and,Bool.false_and,Bool.and_true,Bool.and_false,Bool.true_or,Bool.false_or,Bool.or_true,Bool.or_false,Bool.not_true,Bool.not_false]
 have q9:=of_decide_eq_false b9
 refine l_M (.string (s)) (Ar rfl rfl rfl b9) rfl ?_
 refine Aa (Ar rfl rfl rfl b9) (Ace 0 c8 Tryz.underlying9 rfl (q:=0) rfl rfl hc8) ?_
 refine Aa (Ar rfl rfl rfl b9) (Gl rfl rfl) ?_
 refine l_v (Bn rfl b9 (v:=(.bool (decide (((c8.toNat:Nat):Int) > 122)))) rfl) ?_
 refine l_k k3 ?_
 refine As (t:=decide (((c8.toNat:Nat):Int) > 122)) rfl (fun b12=>?_) (fun b12=>?_)
 ·have q12:=of_decide_eq_true b12
  refine w_q rfl rfl fun K13 k13=>?_
  refine l_v (Cp (v:=(.bool (false))) rfl) ?_
  refine l_k k13 ?_
  refine Aq ?_
  refine hret _ _ _ ⟨rfl,rfl,Eq.trans (b:=(.bool (false))) rfl ?_⟩
  simp only [Hg,Qb,hc8,b4,b7,b9,b12,Bool.true_and,Bool.false_and,Bool.and_true,Bool.and_false,Bool.true_or,Bool.false_or,Bool.or_true,Bool.or_false,Bool.not_true,Bool.not_false]
 have q12:=of_decide_eq_false b12
 refine Al ?_
 apply k2
 refine Asb rfl rfl fun K14 K15 k14 k15=>?_
 refine l_v (Cp (v:=(iV (0))) rfl) ?_
 refine l_k k15 ?_
 refine Ao ?_
 refine Cc (fun mm ee dd ρ' σ'=>∃ (i:Nat),(s.size - i) = mm∧[] = dd∧ρ = ρ'∧σ = σ'∧ee 0 = (.string (s))∧ee 3 = (iV ((i:Int)))∧(i ≤ s.size)∧(∀ j,j < i→Alm s j = true)∧True) (m:=_) ⟨0,rfl,rfl,rfl,rfl,rfl,rfl,(Nat.zero_le _),(fun j h=>absurd h (Nat.not_lt_zero _)),trivial⟩ ?_
 rintro m16 e16 _ _ _ ⟨i,rfl,rfl,rfl,rfl,h16_0,h16_3,p16_0,p16_1,_⟩
 refine Asb rfl rfl fun K17 K18 k17 k18=>?_
 refine l_v (Ah (v:=(iV ((i:Int)))) h16_3) ?_
 refine l_v (Ah (v:=(.string (s))) h16_0) ?_
 refine l_v (Afz Tryz.underlying9 (s:=s) rfl) ?_
 refine l_v (Da rfl rfl) ?_
 refine l_k k18 ?_
 refine As (t:=decide ((i:Int) < ((s.size:Nat):Int))) rfl (fun b19=>?_) (fun b19=>?_)
 ·have q19:=of_decide_eq_true b19
  refine Al ?_
  apply k17
  refine Ai fun K20 k20=>?_
  refine Ao ?_
  refine w_q rfl rfl fun K21 k21=>?_
  refine l_v (Ah (v:=(.string (s))) h16_0) ?_
  refine l_v (Ah (v:=(iV ((i:Int)))) h16_3) ?_
  obtain ⟨c22,hc22⟩:=Alc (s:=s) (i:=i) (by omega)
  refine l_v (Ace i c22 Tryz.underlying9 rfl (q:=(i:Int)) rfl rfl hc22) ?_
  refine l_v (Cp (v:=(.int .u8 (((c22.toNat:Nat):Int)))) rfl) ?_
  refine Arx rfl rfl k21 fun K23 k23=>?_
  refine l_v (Ah (v:=(.int .u8 (((c22.toNat:Nat):Int)))) rfl) ?_
  refine l_v (Da rfl rfl) ?_
  refine l_v (Ah (v:=(.bool (decide (((c22.toNat:Nat):Int) < 97)))) rfl) ?_
  refine Cn (decide (((c22.toNat:Nat):Int) < 97)) (fun b24=>?_) (fun b24=>?_)
  ·have q24:=of_decide_eq_true b24
   refine Ap (Bl rfl rfl rfl b24) ?_
   refine Ap (Bl rfl rfl rfl b24) ?_
   refine l_v (Bt rfl b24 (v:=(.bool (true))) rfl) ?_
   refine l_v (Ah (v:=(.bool (true))) rfl) ?_
   refine l_M (.int .u8 (((c22.toNat:Nat):Int))) (Ar rfl rfl rfl rfl) rfl ?_
   refine Aa (Ar rfl rfl rfl rfl) (Da rfl rfl) ?_
   refine l_M (.bool (decide (((c22.toNat:Nat):Int) < 48))) (Ar rfl rfl rfl rfl) rfl ?_
   refine Cn (decide (((c22.toNat:Nat):Int) < 48)) (fun b25=>?_) (fun b25=>?_)
   ·have q25:=of_decide_eq_true b25
    refine Ap (Bl rfl rfl rfl b25) ?_
    refine Ap (Bl rfl rfl rfl b25) ?_
    refine Aa (Ar rfl rfl rfl rfl) (Bt rfl b25 (v:=(.bool (true))) rfl) ?_
    refine l_v (Bt rfl rfl (v:=(.bool (true))) rfl) ?_
    refine l_v (Ah (v:=(.bool (true))) rfl) ?_
    refine l_M (.int .u8 (((c22.toNat:Nat):Int))) (Ar rfl rfl rfl rfl) rfl ?_
    refine Aa (Ar rfl rfl rfl rfl) (Dg rfl rfl) ?_
    refine l_v (Bt rfl rfl (v:=(.bool (((c22.toNat:Nat):Int) != 45))) rfl) ?_
    refine l_k k23 ?_
    refine As (t:=((c22.toNat:Nat):Int) != 45) rfl (fun b26=>?_) (fun b26=>?_)
    ·have q26:=Ls b26
     refine w_q rfl rfl fun K27 k27=>?_
     refine l_v (Cp (v:=(.bool (false))) rfl) ?_
     refine l_k k27 ?_
     refine Aq ?_
     refine hret _ _ _ ⟨rfl,rfl,Eq.trans (b:=(.bool (false))) rfl ?_⟩
     have hbad:Alm s i = false:=by simp only [Alm,hc22,Ov,b4,b7,b9,b12,b19,b24,b25,b26,Bool.true_and,Bool.false_and,Bool.and_true,Bool.and_false,Bool.true_or,Bool.false_or,Bool.or_true,Bool.or_false,Bool.not_true,Bool.not_false]
     have hall:=L3b (by omega) hbad
     simp only [Hg,hall,b4,b7,b9,b12,b19,b24,b25,b26,Bool.true_and,Bool.false_and,Bool.and_true,Bool.and_false,Bool.true_or,Bool.false_or,Bool.or_true,Bool.or_false,Bool.not_true,Bool.not_false]
    have q26:=Jh b26
    refine Al ?_
    apply k20
    refine Ag rfl rfl ?_
    refine l_v (Ah (v:=(iV ((i:Int)))) h16_3) ?_
    refine l_v (Br rfl rfl (z:=(((i + 1):Nat):Int)) (Bo (by first | rfl | omega | (push_cast; rfl)) (by omega) (by omega))) ?_
    refine l_v (Cp (v:=(iV ((((i + 1):Nat):Int)))) rfl) ?_
    apply Ac
    refine ⟨_,?_,((i + 1)),rfl,rfl,rfl,rfl,h16_0,rfl,(by omega),(Eg p16_1 (by simp only [Alm,hc22,Ov,b4,b7,b9,b12,b19,b24,b25,b26,Bool.true_and,Bool.false_and,Bool.and_true,Bool.and_false,Bool.true_or,Bool.false_or,Bool.or_true,Bool.or_false,Bool.not_true,Bool.not_false])),trivial⟩
    omega
   have q25:=of_decide_eq_false b25
   refine l_M (.int .u8 (((c22.toNat:Nat):Int))) (Ar rfl rfl rfl b25) rfl ?_
   refine Aa (Ar rfl rfl rfl b25) (Gl rfl rfl) ?_
   refine Aa (Ar rfl rfl rfl rfl) (Bn rfl b25 (v:=(.bool (decide (((c22.toNat:Nat):Int) > 57)))) rfl) ?_
   refine l_v (Bt rfl rfl (v:=(.bool (decide (((c22.toNat:Nat):Int) > 57)))) rfl) ?_
   refine l_v (Ah (v:=(.bool (decide (((c22.toNat:Nat):Int) > 57)))) rfl) ?_
   refine Cn (decide (((c22.toNat:Nat):Int) > 57)) (fun b28=>?_) (fun b28=>?_)
   ·have q28:=of_decide_eq_true b28
    refine l_M (.int .u8 (((c22.toNat:Nat):Int))) (Ar rfl rfl rfl b28) rfl ?_
    refine Aa (Ar rfl rfl rfl b28) (Dg rfl rfl) ?_
    refine l_v (Bt rfl b28 (v:=(.bool (((c22.toNat:Nat):Int) != 45))) rfl) ?_
    refine l_k k23 ?_
    refine As (t:=((c22.toNat:Nat):Int) != 45) rfl (fun b29=>?_) (fun b29=>?_)
    ·have q29:=Ls b29
     refine w_q rfl rfl fun K30 k30=>?_
     refine l_v (Cp (v:=(.bool (false))) rfl) ?_
     refine l_k k30 ?_
     refine Aq ?_
     refine hret _ _ _ ⟨rfl,rfl,Eq.trans (b:=(.bool (false))) rfl ?_⟩
     have hbad:Alm s i = false:=by simp only [Alm,hc22,Ov,b4,b7,b9,b12,b19,b24,b25,b28,b29,Bool.true_and,Bool.false_and,Bool.and_true,Bool.and_false,Bool.true_or,Bool.false_or,Bool.or_true,Bool.or_false,Bool.not_true,Bool.not_false]
     have hall:=L3b (by omega) hbad
     simp only [Hg,hall,b4,b7,b9,b12,b19,b24,b25,b28,b29,Bool.true_and,Bool.false_and,Bool.and_true,Bool.and_false,Bool.true_or,Bool.false_or,Bool.or_true,Bool.or_false,Bool.not_true,Bool.not_false]
    have q29:=Jh b29
    refine Al ?_
    apply k20
    refine Ag rfl rfl ?_
    refine l_v (Ah (v:=(iV ((i:Int)))) h16_3) ?_
    refine l_v (Br rfl rfl (z:=(((i + 1):Nat):Int)) (Bo (by first | rfl | omega | (push_cast; rfl)) (by omega) (by omega))) ?_
    refine l_v (Cp (v:=(iV ((((i + 1):Nat):Int)))) rfl) ?_
    apply Ac
    refine ⟨_,?_,((i + 1)),rfl,rfl,rfl,rfl,h16_0,rfl,(by omega),(Eg p16_1 (by simp only [Alm,hc22,Ov,b4,b7,b9,b12,b19,b24,b25,b28,b29,Bool.true_and,Bool.false_and,Bool.and_true,Bool.and_false,Bool.true_or,Bool.false_or,Bool.or_true,Bool.or_false,Bool.not_true,Bool.not_false])),trivial⟩
    omega
   have q28:=of_decide_eq_false b28
   refine Ap (Bl rfl rfl rfl b28) ?_
   refine Ap (Bl rfl rfl rfl b28) ?_
   refine l_v (Bn rfl b28 (v:=(.bool (false))) rfl) ?_
   refine l_k k23 ?_
   refine Cg rfl rfl ?_
   refine Al ?_
   apply k20
   refine Ag rfl rfl ?_
   refine l_v (Ah (v:=(iV ((i:Int)))) h16_3) ?_
   refine l_v (Br rfl rfl (z:=(((i + 1):Nat):Int)) (Bo (by first | rfl | omega | (push_cast; rfl)) (by omega) (by omega))) ?_
   refine l_v (Cp (v:=(iV ((((i + 1):Nat):Int)))) rfl) ?_
   apply Ac
   refine ⟨_,?_,((i + 1)),rfl,rfl,rfl,rfl,h16_0,rfl,(by omega),(Eg p16_1 (by simp only [Alm,hc22,Ov,b4,b7,b9,b12,b19,b24,b25,b28,Bool.true_and,Bool.false_and,Bool.and_true,Bool.and_false,Bool.true_or,Bool.false_or,Bool.or_true,Bool.or_false,Bool.not_true,Bool.not_false])),trivial⟩
   omega
  have q24:=of_decide_eq_false b24
  refine l_M (.int .u8 (((c22.toNat:Nat):Int))) (Ar rfl rfl rfl b24) rfl ?_
  refine Aa (Ar rfl rfl rfl b24) (Gl rfl rfl) ?_
  refine l_v (Bn rfl b24 (v:=(.bool (decide (((c22.toNat:Nat):Int) > 122)))) rfl) ?_
  refine l_v (Ah (v:=(.bool (decide (((c22.toNat:Nat):Int) > 122)))) rfl) ?_
  refine Cn (decide (((c22.toNat:Nat):Int) > 122)) (fun b31=>?_) (fun b31=>?_)
  ·have q31:=of_decide_eq_true b31
   refine l_M (.int .u8 (((c22.toNat:Nat):Int))) (Ar rfl rfl rfl b31) rfl ?_
   refine Aa (Ar rfl rfl rfl b31) (Da rfl rfl) ?_
   refine l_M (.bool (decide (((c22.toNat:Nat):Int) < 48))) (Ar rfl rfl rfl b31) rfl ?_
   refine Cn (decide (((c22.toNat:Nat):Int) < 48)) (fun b32=>?_) (fun b32=>?_)
   ·have q32:=of_decide_eq_true b32
    refine Ap (Bl rfl rfl rfl b32) ?_
    refine Ap (Bl rfl rfl rfl b32) ?_
    refine Aa (Ar rfl rfl rfl b31) (Bt rfl b32 (v:=(.bool (true))) rfl) ?_
    refine l_v (Bt rfl b31 (v:=(.bool (true))) rfl) ?_
    refine l_v (Ah (v:=(.bool (true))) rfl) ?_
    refine l_M (.int .u8 (((c22.toNat:Nat):Int))) (Ar rfl rfl rfl rfl) rfl ?_
    refine Aa (Ar rfl rfl rfl rfl) (Dg rfl rfl) ?_
    refine l_v (Bt rfl rfl (v:=(.bool (((c22.toNat:Nat):Int) != 45))) rfl) ?_
    refine l_k k23 ?_
    refine As (t:=((c22.toNat:Nat):Int) != 45) rfl (fun b33=>?_) (fun b33=>?_)
    ·have q33:=Ls b33
     refine w_q rfl rfl fun K34 k34=>?_
     refine l_v (Cp (v:=(.bool (false))) rfl) ?_
     refine l_k k34 ?_
     refine Aq ?_
     refine hret _ _ _ ⟨rfl,rfl,Eq.trans (b:=(.bool (false))) rfl ?_⟩
     have hbad:Alm s i = false:=by simp only [Alm,hc22,Ov,b4,b7,b9,b12,b19,b24,b31,b32,b33,Bool.true_and,Bool.false_and,Bool.and_true,Bool.and_false,Bool.true_or,Bool.false_or,Bool.or_true,Bool.or_false,Bool.not_true,Bool.not_false]
     have hall:=L3b (by omega) hbad
     simp only [Hg,hall,b4,b7,b9,b12,b19,b24,b31,b32,b33,Bool.true_and,Bool.false_and,Bool.and_true,Bool.and_false,Bool.true_or,Bool.false_or,Bool.or_true,Bool.or_false,Bool.not_true,Bool.not_false]
    have q33:=Jh b33
    refine Al ?_
    apply k20
    refine Ag rfl rfl ?_
    refine l_v (Ah (v:=(iV ((i:Int)))) h16_3) ?_
    refine l_v (Br rfl rfl (z:=(((i + 1):Nat):Int)) (Bo (by first | rfl | omega | (push_cast; rfl)) (by omega) (by omega))) ?_
    refine l_v (Cp (v:=(iV ((((i + 1):Nat):Int)))) rfl) ?_
    apply Ac
    refine ⟨_,?_,((i + 1)),rfl,rfl,rfl,rfl,h16_0,rfl,(by omega),(Eg p16_1 (by simp only [Alm,hc22,Ov,b4,b7,b9,b12,b19,b24,b31,b32,b33,Bool.true_and,Bool.false_and,Bool.and_true,Bool.and_false,Bool.true_or,Bool.false_or,Bool.or_true,Bool.or_false,Bool.not_true,Bool.not_false])),trivial⟩
    omega
   have q32:=of_decide_eq_false b32
   refine l_M (.int .u8 (((c22.toNat:Nat):Int))) (Ar rfl rfl rfl b32) rfl ?_
   refine Aa (Ar rfl rfl rfl b32) (Gl rfl rfl) ?_
   refine Aa (Ar rfl rfl rfl b31) (Bn rfl b32 (v:=(.bool (decide (((c22.toNat:Nat):Int) > 57)))) rfl) ?_
   refine l_v (Bt rfl b31 (v:=(.bool (decide (((c22.toNat:Nat):Int) > 57)))) rfl) ?_
   refine l_v (Ah (v:=(.bool (decide (((c22.toNat:Nat):Int) > 57)))) rfl) ?_
   refine Cn (decide (((c22.toNat:Nat):Int) > 57)) (fun b35=>?_) (fun b35=>?_)
   ·have q35:=of_decide_eq_true b35
    refine l_M (.int .u8 (((c22.toNat:Nat):Int))) (Ar rfl rfl rfl b35) rfl ?_
    refine Aa (Ar rfl rfl rfl b35) (Dg rfl rfl) ?_
    refine l_v (Bt rfl b35 (v:=(.bool (((c22.toNat:Nat):Int) != 45))) rfl) ?_
    refine l_k k23 ?_
    refine As (t:=((c22.toNat:Nat):Int) != 45) rfl (fun b36=>?_) (fun b36=>?_)
    ·have q36:=Ls b36
     refine w_q rfl rfl fun K37 k37=>?_
     refine l_v (Cp (v:=(.bool (false))) rfl) ?_
     refine l_k k37 ?_
     refine Aq ?_
     refine hret _ _ _ ⟨rfl,rfl,Eq.trans (b:=(.bool (false))) rfl ?_⟩
     have hbad:Alm s i = false:=by simp only [Alm,hc22,Ov,b4,b7,b9,b12,b19,b24,b31,b32,b35,b36,Bool.true_and,Bool.false_and,Bool.and_true,Bool.and_false,Bool.true_or,Bool.false_or,Bool.or_true,Bool.or_false,Bool.not_true,Bool.not_false]
     have hall:=L3b (by omega) hbad
     simp only [Hg,hall,b4,b7,b9,b12,b19,b24,b31,b32,b35,b36,Bool.true_and,Bool.false_and,Bool.and_true,Bool.and_false,Bool.true_or,Bool.false_or,Bool.or_true,Bool.or_false,Bool.not_true,Bool.not_false]
    have q36:=Jh b36
    refine Al ?_
    apply k20
    refine Ag rfl rfl ?_
    refine l_v (Ah (v:=(iV ((i:Int)))) h16_3) ?_
    refine l_v (Br rfl rfl (z:=(((i + 1):Nat):Int)) (Bo (by first | rfl | omega | (push_cast; rfl)) (by omega) (by omega))) ?_
    refine l_v (Cp (v:=(iV ((((i + 1):Nat):Int)))) rfl) ?_
    apply Ac
    refine ⟨_,?_,((i + 1)),rfl,rfl,rfl,rfl,h16_0,rfl,(by omega),(Eg p16_1 (by simp only [Alm,hc22,Ov,b4,b7,b9,b12,b19,b24,b31,b32,b35,b36,Bool.true_and,Bool.false_and,Bool.and_true,Bool.and_false,Bool.true_or,Bool.false_or,Bool.or_true,Bool.or_false,Bool.not_true,Bool.not_false])),trivial⟩
    omega
   have q35:=of_decide_eq_false b35
   refine Ap (Bl rfl rfl rfl b35) ?_
   refine Ap (Bl rfl rfl rfl b35) ?_
   refine l_v (Bn rfl b35 (v:=(.bool (false))) rfl) ?_
   refine l_k k23 ?_
   refine Cg rfl rfl ?_
   refine Al ?_
   apply k20
   refine Ag rfl rfl ?_
   refine l_v (Ah (v:=(iV ((i:Int)))) h16_3) ?_
   refine l_v (Br rfl rfl (z:=(((i + 1):Nat):Int)) (Bo (by first | rfl | omega | (push_cast; rfl)) (by omega) (by omega))) ?_
   refine l_v (Cp (v:=(iV ((((i + 1):Nat):Int)))) rfl) ?_
   apply Ac
   refine ⟨_,?_,((i + 1)),rfl,rfl,rfl,rfl,h16_0,rfl,(by omega),(Eg p16_1 (by simp only [Alm,hc22,Ov,b4,b7,b9,b12,b19,b24,b31,b32,b35,Bool.true_and,Bool.false_and,Bool.and_true,Bool.and_false,Bool.true_or,Bool.false_or,Bool.or_true,Bool.or_false,Bool.not_true,Bool.not_false])),trivial⟩
   omega
  have q31:=of_decide_eq_false b31
  refine Ap (Bl rfl rfl rfl b31) ?_
  refine Ap (Bl rfl rfl rfl b31) ?_
  refine Ap (Bl rfl rfl rfl b31) ?_
  refine Ap (Jf rfl rfl rfl) ?_
  refine Ap (Jf rfl rfl rfl) ?_
  refine Ap (Bl rfl rfl rfl b31) ?_
  refine l_v (Bn rfl b31 (v:=(.bool (false))) rfl) ?_
  refine l_v (Ah (v:=(.bool (false))) rfl) ?_
  refine Ap (Bl rfl rfl rfl rfl) ?_
  refine Ap (Bl rfl rfl rfl rfl) ?_
  refine l_v (Bn rfl rfl (v:=(.bool (false))) rfl) ?_
  refine l_k k23 ?_
  refine Cg rfl rfl ?_
  refine Al ?_
  apply k20
  refine Ag rfl rfl ?_
  refine l_v (Ah (v:=(iV ((i:Int)))) h16_3) ?_
  refine l_v (Br rfl rfl (z:=(((i + 1):Nat):Int)) (Bo (by first | rfl | omega | (push_cast; rfl)) (by omega) (by omega))) ?_
  refine l_v (Cp (v:=(iV ((((i + 1):Nat):Int)))) rfl) ?_
  apply Ac
  refine ⟨_,?_,((i + 1)),rfl,rfl,rfl,rfl,h16_0,rfl,(by omega),(Eg p16_1 (by simp only [Alm,hc22,Ov,b4,b7,b9,b12,b19,b24,b31,Bool.true_and,Bool.false_and,Bool.and_true,Bool.and_false,Bool.true_or,Bool.false_or,Bool.or_true,Bool.or_false,Bool.not_true,Bool.not_false])),trivial⟩
  omega
 have q19:=of_decide_eq_false b19
 refine Bx ?_
 apply k14
 refine w_q rfl rfl fun K38 k38=>?_
 refine l_v (Cp (v:=(.bool (true))) rfl) ?_
 refine l_k k38 ?_
 refine Aq ?_
 refine hret _ _ _ ⟨rfl,rfl,Eq.trans (b:=(.bool (true))) rfl ?_⟩
 have hall:=L5x.2 fun j hj=>p16_1 j (by omega)
 simp only [Hg,Qb,hall,hc8,b4,b7,b9,b12,b19,Bool.true_and,Bool.false_and,Bool.and_true,Bool.and_false,Bool.true_or,Bool.false_or,Bool.or_true,Bool.or_false,Bool.not_true,Bool.not_false]
set_option maxRecDepth 100000 in
theorem L7y {mn:Bool} {X:Frame→List Frame→Ro→Own→Cy→Prop} {ρ:Ro} {σ:Own} {l:List ByteArray} {vl:Value} {s:ByteArray} (rl:Val ρ vl l):CallsH (CX mn X) 109 #[vl,(.string (s))] ρ σ (fun w ρ' σ'=>ρ' = ρ∧σ' = σ∧w = (iV (Aht l s))):=by
 refine Bh (n:=19) (args:=[vl,(.string (s))]) [4] Tryz.func109 rfl rfl rfl rfl fun Q hret hnor=>?_
 refine w_q rfl rfl fun K1 k1=>?_
 refine l_v (Cp (v:=(iV (0))) rfl) ?_
 refine Ary rfl rfl k1 fun K2 K3 k2 k3=>?_
 refine l_v (Cp (v:=(iV (0))) rfl) ?_
 refine l_k k3 ?_
 refine Ao ?_
 refine Cc (fun mm ee dd ρ' σ'=>∃ (i:Nat),(l.length - i) = mm∧[] = dd∧ρ = ρ'∧σ = σ'∧ee 0 = vl∧ee 1 = (.string (s))∧ee 5 = (iV ((i:Int)))∧(i ≤ l.length)∧(∀ j,j < i→Xi l s j = false)∧True) (m:=_) ⟨0,rfl,rfl,rfl,rfl,rfl,rfl,rfl,(Nat.zero_le _),(fun j h=>absurd h (Nat.not_lt_zero _)),trivial⟩ ?_
 rintro m4 e4 _ _ _ ⟨i,rfl,rfl,rfl,rfl,h4_0,h4_1,h4_5,p4_0,p4_1,_⟩
 refine Asb rfl rfl fun K5 K6 k5 k6=>?_
 refine l_v (Ah (v:=(iV ((i:Int)))) h4_5) ?_
 refine l_v (Ah (v:=vl) h4_0) ?_
 have g7:=Val.len rl
 refine l_v (Ci (el:=9) Tryz.underlying32 rfl rl) ?_
 refine l_v (Da rfl rfl) ?_
 refine l_k k6 ?_
 refine As (t:=decide ((i:Int) < ((l.length:Nat):Int))) rfl (fun b8=>?_) (fun b8=>?_)
 ·have q8:=of_decide_eq_true b8
  refine Al ?_
  apply k5
  refine Ai fun K9 k9=>?_
  refine Ao ?_
  refine w_q rfl rfl fun K10 k10=>?_
  refine l_v (Ah (v:=vl) h4_0) ?_
  refine l_v (Ah (v:=(iV ((i:Int)))) h4_5) ?_
  obtain ⟨a12,ha12⟩:=Ed (xs:=l) (i:=i) (by omega)
  refine Arw (Ch i Tryz.underlying32 ty9 rfl rl (q:=(i:Int)) rfl rfl ha12) fun v11 r11=>?_
  have g13:=At.slen r11
  refine l_v (Pk ty9 rfl r11) ?_
  refine l_v (Ah (v:=(.string (s))) h4_1) ?_
  refine l_v (L5y (p:=a12) (q:=s) rfl rfl) ?_
  refine l_k k10 ?_
  refine As (t:=(a12).toList == (s).toList) rfl (fun b14=>?_) (fun b14=>?_)
  ·have q14:=Jr b14
   refine w_q rfl rfl fun K15 k15=>?_
   refine l_v (Ah (v:=(iV ((i:Int)))) h4_5) ?_
   refine l_v (Cp (v:=(iV ((i:Int)))) rfl) ?_
   refine l_k k15 ?_
   refine Aq ?_
   refine hret _ _ _ ⟨rfl,rfl,Eq.trans (b:=(iV ((i:Int)))) rfl ?_⟩
   have hi:=Fh (n:=l.length) p4_1 (by omega) (show Xi l s i = true by simp only [Xi,ha12,b8,b14])
   simp only [Aht,hi]
  have q14:=Jq b14
  refine Al ?_
  apply k9
  refine Ag rfl rfl ?_
  refine l_v (Ah (v:=(iV ((i:Int)))) h4_5) ?_
  refine l_v (Br rfl rfl (z:=(((i + 1):Nat):Int)) (Bo (by first | rfl | omega | (push_cast; rfl)) (by omega) (by omega))) ?_
  refine l_v (Cp (v:=(iV ((((i + 1):Nat):Int)))) rfl) ?_
  apply Ac
  refine ⟨_,?_,((i + 1)),rfl,rfl,rfl,rfl,h4_0,h4_1,rfl,(by omega),(Eg p4_1 (by simp only [Xi,ha12,b8,b14])),trivial⟩
  omega
 have q8:=of_decide_eq_false b8
 refine Bx ?_
 apply k2
 refine w_q rfl rfl fun K16 k16=>?_
 refine l_v (Cp (v:=(iV ((-1)))) rfl) ?_
 refine l_k k16 ?_
 refine Aq ?_
 refine hret _ _ _ ⟨rfl,rfl,Eq.trans (b:=(iV ((-1)))) rfl ?_⟩
 have hn:=Ep (n:=l.length) fun j hj=>p4_1 j (by omega)
 simp only [Aht,hn]
set_option maxRecDepth 100000 in
theorem L5o {mn:Bool} {X:Frame→List Frame→Ro→Own→Cy→Prop} {ρ:Ro} {σ:Own} {l:List ByteArray} {vl:Value} {most:Int} (rl:Val ρ vl l):CallsH (CX mn X) 50 #[vl,(iV (most))] ρ σ (fun w ρ' σ'=>ρ' = ρ∧σ' = σ∧w = (iV (Dd l most))):=by
 refine Bh (n:=31) (args:=[vl,(iV (most))]) [4] Tryz.func50 rfl rfl rfl rfl fun Q hret hnor=>?_
 refine w_q rfl rfl fun K1 k1=>?_
 refine l_v (Cp (v:=(iV (0))) rfl) ?_
 refine Ary rfl rfl k1 fun K2 K3 k2 k3=>?_
 refine l_v (Ah (v:=vl) rfl) ?_
 have g4:=Val.len rl
 refine l_v (Ci (el:=9) Tryz.underlying32 rfl rl) ?_
 refine l_v (Ah (v:=(iV (most))) rfl) ?_
 refine l_v (Gl rfl rfl) ?_
 refine l_k k3 ?_
 refine As (t:=decide (((l.length:Nat):Int) > most)) rfl (fun b5=>?_) (fun b5=>?_)
 ·have q5:=of_decide_eq_true b5
  refine w_q rfl rfl fun K6 k6=>?_
  refine l_v (Cp (v:=(iV (2))) rfl) ?_
  refine l_k k6 ?_
  refine Aq ?_
  refine hret _ _ _ ⟨rfl,rfl,Eq.trans (b:=(iV (2))) rfl ?_⟩
  rw [Dd,if_pos (by omega)]
 have q5:=of_decide_eq_false b5
 refine Al ?_
 apply k2
 refine Asb rfl rfl fun K7 K8 k7 k8=>?_
 refine l_v (Cp (v:=(iV (0))) rfl) ?_
 refine l_k k8 ?_
 refine Ao ?_
 refine Cc (fun mm ee dd ρ' σ'=>∃ (i:Nat),(l.length - i) = mm∧[] = dd∧ρ = ρ'∧σ = σ'∧ee 0 = vl∧ee 5 = (iV ((i:Int)))∧(i ≤ l.length)∧(∀ j,j < i→Nh l j = 0)∧True) (m:=_) ⟨0,rfl,rfl,rfl,rfl,rfl,rfl,(Nat.zero_le _),(fun j h=>absurd h (Nat.not_lt_zero _)),trivial⟩ ?_
 rintro m9 e9 _ _ _ ⟨i,rfl,rfl,rfl,rfl,h9_0,h9_5,p9_0,p9_1,_⟩
 refine Asb rfl rfl fun K10 K11 k10 k11=>?_
 refine l_v (Ah (v:=(iV ((i:Int)))) h9_5) ?_
 refine l_v (Ah (v:=vl) h9_0) ?_
 have g12:=Val.len rl
 refine l_v (Ci (el:=9) Tryz.underlying32 rfl rl) ?_
 refine l_v (Da rfl rfl) ?_
 refine l_k k11 ?_
 refine As (t:=decide ((i:Int) < ((l.length:Nat):Int))) rfl (fun b13=>?_) (fun b13=>?_)
 ·have q13:=of_decide_eq_true b13
  refine Al ?_
  apply k10
  refine Ai fun K14 k14=>?_
  refine Ao ?_
  refine Asb rfl rfl fun K15 K16 k15 k16=>?_
  refine l_v (Ah (v:=vl) h9_0) ?_
  refine l_v (Ah (v:=(iV ((i:Int)))) h9_5) ?_
  obtain ⟨a18,ha18⟩:=Ed (xs:=l) (i:=i) (by omega)
  refine Arw (Ch i Tryz.underlying32 ty9 rfl rl (q:=(i:Int)) rfl rfl ha18) fun v17 r17=>?_
  have g19:=At.slen r17
  refine l_v (Pk ty9 rfl r17) ?_
  refine Arv (Bm (L4g) Tryz.func51 rfl rfl ⟨rfl,trivial⟩ ?_)
  refine l_v (Iy rfl) ?_
  refine l_k k16 ?_
  refine As (t:=!(Hg a18)) rfl (fun b20=>?_) (fun b20=>?_)
  ·have b21:=not_eq_t b20
   refine w_q rfl rfl fun K22 k22=>?_
   refine l_v (Cp (v:=(iV (4))) rfl) ?_
   refine l_k k22 ?_
   refine Aq ?_
   refine hret _ _ _ ⟨rfl,rfl,Eq.trans (b:=(iV (4))) rfl ?_⟩
   have hf:Nh l i = 4:=by simp only [Nh,ha18,b5,b13,b20,b21]; first | rfl | omega | (simp; done) | (simp; omega)
   rw [Dd,if_neg (by omega),Db p9_1 (by omega) hf (by omega)]
  have b23:=not_eq_f b20
  refine Al ?_
  apply k15
  refine Ai fun K24 k24=>?_
  refine Dc [0,1,2,3,4,5,6,7,8] (by kernel_rfl) rfl rfl ?_
  refine Bd (i:=0) Aos rfl (by kernel_rfl) rfl Ash rfl (Ah (v:=vl) h9_0) ?_
  refine Bd (i:=1) Aot rfl (by kernel_rfl) rfl Ash rfl (Ah (v:=(iV ((i:Int)))) h9_5) ?_
  refine Cd (i:=2) Aou rfl (by kernel_rfl) rfl Ash rfl (L5k i Tryz.underlying32 ty9 rfl rl (q:=(i:Int)) rfl rfl (by omega)) fun v25 r25=>?_
  refine Bd (i:=3) Aov rfl (by kernel_rfl) rfl Ash rfl (Ah (v:=vl) h9_0) ?_
  refine Bg (i:=4) Aow rfl (by kernel_rfl) rfl Ash rfl (Ah (v:=(iV ((i:Int)))) h9_5) ?_
  refine Hk (i:=5) Aox rfl (by kernel_rfl) rfl Ash rfl (Ch i Tryz.underlying32 ty9 rfl rl (q:=(i:Int)) rfl rfl ha18) fun v26 r26=>?_
  have g27:=At.slen r26
  refine Bg (i:=6) Aoy rfl (by kernel_rfl) rfl Ash rfl (Pk ty9 rfl r26) ?_
  refine Dj (i:=7) Aoz rfl (by kernel_rfl) rfl rfl (Bm (L7y r25) Tryz.func109 rfl rfl ⟨rfl,rfl,trivial⟩ ⟨Ash,?_⟩)
  refine Bg (i:=8) Apa rfl (by kernel_rfl) rfl Ash rfl (Uy rfl rfl) ?_
  refine Ec rfl ?_
  apply k24
  refine As (t:=decide (Aht ((l.take i)) a18 ≥ 0)) rfl (fun b28=>?_) (fun b28=>?_)
  ·have q28:=of_decide_eq_true b28
   refine w_q rfl rfl fun K29 k29=>?_
   refine l_v (Cp (v:=(iV (5))) rfl) ?_
   refine l_k k29 ?_
   refine Aq ?_
   refine hret _ _ _ ⟨rfl,rfl,Eq.trans (b:=(iV (5))) rfl ?_⟩
   have hf:Nh l i = 5:=by simp only [Nh,ha18,b5,b13,b20,b23,b28]; first | rfl | omega | (simp; done) | (simp; omega)
   rw [Dd,if_neg (by omega),Db p9_1 (by omega) hf (by omega)]
  have q28:=of_decide_eq_false b28
  refine Al ?_
  apply k14
  refine Ag rfl rfl ?_
  refine l_v (Ah (v:=(iV ((i:Int)))) h9_5) ?_
  refine l_v (Br rfl rfl (z:=(((i + 1):Nat):Int)) (Bo (by first | rfl | omega | (push_cast; rfl)) (by omega) (by omega))) ?_
  refine l_v (Cp (v:=(iV ((((i + 1):Nat):Int)))) rfl) ?_
  apply Ac
  refine ⟨_,?_,((i + 1)),rfl,rfl,rfl,rfl,h9_0,rfl,(by omega),(Eg p9_1 (by simp only [Nh,ha18,b5,b13,b20,b23,b28]; first | rfl | omega | (simp; done) | (simp; omega))),trivial⟩
  omega
 have q13:=of_decide_eq_false b13
 refine Bx ?_
 apply k7
 refine w_q rfl rfl fun K30 k30=>?_
 refine l_v (Cp (v:=(iV (0))) rfl) ?_
 refine l_k k30 ?_
 refine Aq ?_
 refine hret _ _ _ ⟨rfl,rfl,Eq.trans (b:=(iV (0))) rfl ?_⟩
 rw [Dd,if_neg (by omega),Fb fun j hj=>p9_1 j (by omega)]
end Go.Proofs.YtphgjjmlnkgghaaGreatDoor

namespace Go.Proofs.YtphgjjmlnkgghaaGreatDoor
set_option maxHeartbeats 1000000
open Go
set_option maxRecDepth 100000 in
theorem L4i {mn:Bool} {X:Frame→List Frame→Ro→Own→Cy→Prop} {ρ:Ro} {σ:Own} {l:List Span} {vl:Value} {many:Int} (rl:Val ρ vl l):CallsH (CX mn X) 53 #[vl,(iV (many))] ρ σ (fun w ρ' σ'=>ρ' = ρ∧σ' = σ∧w = (iV (Fm l many))):=by
 refine Bh (n:=22) (args:=[vl,(iV (many))]) [4] Tryz.func53 rfl rfl rfl rfl fun Q hret hnor=>?_
 refine w_q rfl rfl fun K1 k1=>?_
 refine l_v (Cp (v:=(iV (0))) rfl) ?_
 refine Ary rfl rfl k1 fun K2 K3 k2 k3=>?_
 refine l_v (Ah (v:=vl) rfl) ?_
 have g4:=Val.len rl
 refine l_v (Ci (el:=41) Tryz.underlying26 rfl rl) ?_
 refine l_v (Ah (v:=(iV (many))) rfl) ?_
 refine l_v (Dg rfl rfl) ?_
 refine l_k k3 ?_
 refine As (t:=((l.length:Nat):Int) != many) rfl (fun b5=>?_) (fun b5=>?_)
 ·have q5:=Ls b5
  refine w_q rfl rfl fun K6 k6=>?_
  refine l_v (Cp (v:=(iV (2))) rfl) ?_
  refine l_k k6 ?_
  refine Aq ?_
  refine hret _ _ _ ⟨rfl,rfl,Eq.trans (b:=(iV (2))) rfl ?_⟩
  rw [Fm,if_neg (by omega)]
 have q5:=Jh b5
 refine Al ?_
 apply k2
 refine Asb rfl rfl fun K7 K8 k7 k8=>?_
 refine l_v (Cp (v:=(iV (0))) rfl) ?_
 refine l_k k8 ?_
 refine Ao ?_
 refine Cc (fun mm ee dd ρ' σ'=>∃ (i:Nat),(l.length - i) = mm∧[] = dd∧ρ = ρ'∧σ = σ'∧ee 0 = vl∧ee 5 = (iV ((i:Int)))∧(i ≤ l.length)∧(∀ j,j < i→Nn l j = 0)∧True) (m:=_) ⟨0,rfl,rfl,rfl,rfl,rfl,rfl,(Nat.zero_le _),(fun j h=>absurd h (Nat.not_lt_zero _)),trivial⟩ ?_
 rintro m9 e9 _ _ _ ⟨i,rfl,rfl,rfl,rfl,h9_0,h9_5,p9_0,p9_1,_⟩
 refine Asb rfl rfl fun K10 K11 k10 k11=>?_
 refine l_v (Ah (v:=(iV ((i:Int)))) h9_5) ?_
 refine l_v (Ah (v:=vl) h9_0) ?_
 have g12:=Val.len rl
 refine l_v (Ci (el:=41) Tryz.underlying26 rfl rl) ?_
 refine l_v (Da rfl rfl) ?_
 refine l_k k11 ?_
 refine As (t:=decide ((i:Int) < ((l.length:Nat):Int))) rfl (fun b13=>?_) (fun b13=>?_)
 ·have q13:=of_decide_eq_true b13
  refine Al ?_
  apply k10
  refine Ai fun K14 k14=>?_
  refine Ao ?_
  refine w_q rfl rfl fun K15 k15=>?_
  refine l_v (Ah (v:=vl) h9_0) ?_
  refine l_v (Ah (v:=(iV ((i:Int)))) h9_5) ?_
  obtain ⟨a17,ha17⟩:=Ed (xs:=l) (i:=i) (by omega)
  refine Arw (Ch i Tryz.underlying26 Mx rfl rl (q:=(i:Int)) rfl rfl ha17) fun v16 r16=>?_
  refine Arw (Ax Mx rfl r16) fun v18 r18=>?_
  refine Arv (Bm (L2k r18) Tryz.func33 rfl rfl ⟨rfl,rfl,rfl,trivial⟩ ?_)
  refine l_v (Iy rfl) ?_
  refine l_k k15 ?_
  refine As (t:=!(Ef a17 0 1000)) rfl (fun b19=>?_) (fun b19=>?_)
  ·have b20:=not_eq_t b19
   refine w_q rfl rfl fun K21 k21=>?_
   refine l_v (Cp (v:=(iV (1))) rfl) ?_
   refine l_k k21 ?_
   refine Aq ?_
   refine hret _ _ _ ⟨rfl,rfl,Eq.trans (b:=(iV (1))) rfl ?_⟩
   have hf:Nn l i = 1:=by simp [Nn,ha17,b5,b13,b19,b20,q5,q13]
   rw [Fm,if_pos (by omega),Db p9_1 (by omega) hf (by omega)]
  have b22:=not_eq_f b19
  refine Al ?_
  apply k14
  refine Ag rfl rfl ?_
  refine l_v (Ah (v:=(iV ((i:Int)))) h9_5) ?_
  refine l_v (Br rfl rfl (z:=(((i + 1):Nat):Int)) (Bo (by first | rfl | omega | (push_cast; rfl)) (by omega) (by omega))) ?_
  refine l_v (Cp (v:=(iV ((((i + 1):Nat):Int)))) rfl) ?_
  apply Ac
  refine ⟨_,?_,((i + 1)),rfl,rfl,rfl,rfl,h9_0,rfl,(by omega),(Eg p9_1 (by simp [Nn,ha17,b5,b13,b19,b22,q5,q13])),trivial⟩
  omega
 have q13:=of_decide_eq_false b13
 refine Bx ?_
 apply k7
 refine w_q rfl rfl fun K23 k23=>?_
 refine l_v (Cp (v:=(iV (0))) rfl) ?_
 refine l_k k23 ?_
 refine Aq ?_
 refine hret _ _ _ ⟨rfl,rfl,Eq.trans (b:=(iV (0))) rfl ?_⟩
 rw [Fm,if_pos (by omega),Fb fun j hj=>p9_1 j (by omega)]
set_option maxRecDepth 100000 in
theorem L3u {mn:Bool} {X:Frame→List Frame→Ro→Own→Cy→Prop} {ρ:Ro} {σ:Own} {m:Market} {vm:Value} (rm:Val ρ vm m):CallsH (CX mn X) 13 #[vm] ρ σ (fun w ρ' σ'=>ρ' = ρ∧σ' = σ∧w = (iV (Cf m))):=by
 refine Bh (n:=137) (args:=[vm]) [2] Tryz.func13 rfl rfl rfl rfl fun Q hret hnor=>?_
 refine w_q rfl rfl fun K1 k1=>?_
 refine Arv (Eb (v:=vm) rfl fun k2=>?_)
 refine Bb (a:=m) rm fun ρ2 l2 r2=>?_
 refine l_v (Cp (v:=(iV (0))) rfl) ?_
 refine Ary rfl rfl k1 fun K3 K4 k3 k4=>?_
 refine Arw (Ay Market.f_houses Tryz.underlying36 rfl rfl Hw (by decide) rfl r2) fun v5 r5=>?_
 refine Arw (Ax Hw rfl r5) fun v6 r6=>?_
 refine Arv (Bm (L5o r6) Tryz.func50 rfl rfl ⟨rfl,rfl,trivial⟩ ?_)
 refine l_v (Cp (v:=(iV (Dd m.houses 5))) rfl) ?_
 refine Arx rfl rfl k4 fun K7 k7=>?_
 refine l_v (Ah (v:=(iV (Dd m.houses 5))) rfl) ?_
 refine l_v (Dg rfl rfl) ?_
 refine l_k k7 ?_
 refine As (t:=Dd m.houses 5 != 0) rfl (fun b8=>?_) (fun b8=>?_)
 ·have q8:=Ls b8
  refine w_q rfl rfl fun K9 k9=>?_
  refine l_v (Ah (v:=(iV (Dd m.houses 5))) rfl) ?_
  refine l_v (Cp (v:=(iV (Dd m.houses 5))) rfl) ?_
  refine l_k k9 ?_
  refine Aj (Asf l2) ?_
  refine Aq ?_
  refine hret _ _ _ ⟨rfl,rfl,Eq.trans (b:=(iV (Dd m.houses 5))) rfl ?_⟩
  rw [Cf,Ry q8]
 have q8:=Jh b8
 refine Al ?_
 apply k3
 refine Asb rfl rfl fun K10 K11 k10 k11=>?_
 refine Arw (Ay Market.f_marks Tryz.underlying36 rfl rfl Hw (by decide) rfl r2) fun v12 r12=>?_
 refine Arw (Ax Hw rfl r12) fun v13 r13=>?_
 refine Arv (Bm (L5o r13) Tryz.func50 rfl rfl ⟨rfl,rfl,trivial⟩ ?_)
 refine l_v (Cp (v:=(iV (Dd m.marks 4))) rfl) ?_
 refine Arx rfl rfl k11 fun K14 k14=>?_
 refine l_v (Ah (v:=(iV (Dd m.marks 4))) rfl) ?_
 refine l_v (Dg rfl rfl) ?_
 refine l_k k14 ?_
 refine As (t:=Dd m.marks 4 != 0) rfl (fun b15=>?_) (fun b15=>?_)
 ·have q15:=Ls b15
  refine w_q rfl rfl fun K16 k16=>?_
  refine l_v (Ah (v:=(iV (Dd m.marks 4))) rfl) ?_
  refine l_v (Cp (v:=(iV (Dd m.marks 4))) rfl) ?_
  refine l_k k16 ?_
  refine Aj (Asf l2) ?_
  refine Aq ?_
  refine hret _ _ _ ⟨rfl,rfl,Eq.trans (b:=(iV (Dd m.marks 4))) rfl ?_⟩
  rw [Cf,Gr q8,Ry q15]
 have q15:=Jh b15
 refine Al ?_
 apply k10
 refine Asb rfl rfl fun K17 K18 k17 k18=>?_
 refine Arw (Ay Market.f_fields Tryz.underlying36 rfl rfl Se (by decide) rfl r2) fun v19 r19=>?_
 refine Arw (Ax Se rfl r19) fun v20 r20=>?_
 have g21:=Val.len r20
 refine l_v (Ci (el:=47) Tryz.underlying33 rfl r20) ?_
 refine l_v (Gl rfl rfl) ?_
 refine l_k k18 ?_
 refine As (t:=decide (((m.fields.length:Nat):Int) > 6)) rfl (fun b22=>?_) (fun b22=>?_)
 ·have q22:=of_decide_eq_true b22
  refine w_q rfl rfl fun K23 k23=>?_
  refine l_v (Cp (v:=(iV (2))) rfl) ?_
  refine l_k k23 ?_
  refine Aj (Asf l2) ?_
  refine Aq ?_
  refine hret _ _ _ ⟨rfl,rfl,Eq.trans (b:=(iV (2))) rfl ?_⟩
  rw [Cf,Gr q8,Gr q15,Ew,if_pos q22,Ry (by omega)]
 have q22:=of_decide_eq_false b22
 refine Al ?_
 apply k17
 refine Asb rfl rfl fun K24 K25 k24 k25=>?_
 refine l_v (Cp (v:=(iV (0))) rfl) ?_
 refine l_k k25 ?_
 refine Ao ?_
 refine Cc (fun mm ee dd ρ' σ'=>∃ (i:Nat),(m.fields.length - i) = mm∧[] = dd∧ρ2 = ρ'∧σ = σ'∧ee 1 = (.pointer (some ⟨k2,0,none⟩))∧ee 5 = (iV ((i:Int)))∧(i ≤ m.fields.length)∧(∀ j,j < i→fieldAt m j = 0)∧True) (m:=_) ⟨0,rfl,rfl,rfl,rfl,rfl,rfl,(Nat.zero_le _),(fun j h=>absurd h (Nat.not_lt_zero _)),trivial⟩ ?_
 rintro m26 e26 _ _ _ ⟨i,rfl,rfl,rfl,rfl,h26_1,h26_5,p26_0,p26_1,_⟩
 refine Asb rfl rfl fun K27 K28 k27 k28=>?_
 refine l_v (Ah (v:=(iV ((i:Int)))) h26_5) ?_
 refine Arw (Ay Market.f_fields Tryz.underlying36 rfl rfl Se (by decide) h26_1 r2) fun v29 r29=>?_
 refine Arw (Ax Se rfl r29) fun v30 r30=>?_
 have g31:=Val.len r30
 refine l_v (Ci (el:=47) Tryz.underlying33 rfl r30) ?_
 refine l_v (Da rfl rfl) ?_
 refine l_k k28 ?_
 refine As (t:=decide ((i:Int) < ((m.fields.length:Nat):Int))) rfl (fun b32=>?_) (fun b32=>?_)
 ·have q32:=of_decide_eq_true b32
  refine Al ?_
  apply k27
  refine Ai fun K33 k33=>?_
  refine Ao ?_
  refine w_q rfl rfl fun K34 k34=>?_
  refine Arw (Ay Market.f_fields Tryz.underlying36 rfl rfl Se (by decide) h26_1 r2) fun v35 r35=>?_
  refine Arw (Ax Se rfl r35) fun v36 r36=>?_
  refine l_v (Ah (v:=(iV ((i:Int)))) h26_5) ?_
  obtain ⟨a38,ha38⟩:=Ed (xs:=m.fields) (i:=i) (by omega)
  refine Arw (Ch i Tryz.underlying33 Lo rfl r36 (q:=(i:Int)) rfl rfl ha38) fun v37 r37=>?_
  refine Arw (Ax Lo rfl r37) fun v39 r39=>?_
  refine Arv (Ct Xu fun k40=>?_)
  refine Cx rfl (Dv (v:=v39) (a:=a38) (c:=Aah) Lo rfl rfl r39 rfl ?_)
  refine Bb (a:=a38) r39 fun ρ41 l41 r41=>?_
  replace r2:=At.mono l41 r2
  refine Ary rfl rfl k34 fun K42 K43 k42 k43=>?_
  refine Arw (Ay FField.f_name Tryz.underlying47 rfl rfl ty9 (by decide) rfl r41) fun v44 r44=>?_
  have g45:=At.slen r44
  refine l_v (Pk ty9 rfl r44) ?_
  refine Arv (Bm (L4g) Tryz.func51 rfl rfl ⟨rfl,trivial⟩ ?_)
  refine l_v (Iy rfl) ?_
  refine l_k k43 ?_
  refine As (t:=!(Hg a38.name)) rfl (fun b46=>?_) (fun b46=>?_)
  ·have b47:=not_eq_t b46
   refine w_q rfl rfl fun K48 k48=>?_
   refine l_v (Cp (v:=(iV (4))) rfl) ?_
   refine l_k k48 ?_
   refine Aj (Asf (Asi l2 l41)) ?_
   refine Aq ?_
   refine hret _ _ _ ⟨rfl,rfl,Eq.trans (b:=(iV (4))) rfl ?_⟩
   have hf:fieldAt m i = 4:=by simp [fieldAt,ha38,b8,b15,b22,b32,b46,b47,q8,q15,q22,q32]
   have hF:Ew m = 4:=by rw [Ew,if_neg (by omega),Db p26_1 (by omega) hf (by omega)]
   rw [Cf,Gr q8,Gr q15,hF,Ry (by omega)]
  have b49:=not_eq_f b46
  refine Al ?_
  apply k42
  refine Asb rfl rfl fun K50 K51 k50 k51=>?_
  refine l_v (Cp (v:=(iV (0))) rfl) ?_
  refine l_k k51 ?_
  refine Ao ?_
  refine Cc (fun mm ee dd ρ' σ'=>∃ (k:Nat),(i - k) = mm∧[] = dd∧ρ41 = ρ'∧σ = σ'∧ee 1 = (.pointer (some ⟨k2,0,none⟩))∧ee 5 = (iV ((i:Int)))∧ee 6 = (.pointer (some ⟨k40,0,none⟩))∧ee 7 = (iV ((k:Int)))∧(k ≤ i)∧(∀ j,j < k→Mk m a38.name j = false)∧True) (m:=_) ⟨0,rfl,rfl,rfl,rfl,h26_1,h26_5,rfl,rfl,(Nat.zero_le _),(fun j h=>absurd h (Nat.not_lt_zero _)),trivial⟩ ?_
  rintro m52 e52 _ _ _ ⟨k,rfl,rfl,rfl,rfl,h52_1,h52_5,h52_6,h52_7,p52_0,p52_1,_⟩
  refine Asb rfl rfl fun K53 K54 k53 k54=>?_
  refine l_v (Ah (v:=(iV ((k:Int)))) h52_7) ?_
  refine l_v (Ah (v:=(iV ((i:Int)))) h52_5) ?_
  refine l_v (Da rfl rfl) ?_
  refine l_k k54 ?_
  refine As (t:=decide ((k:Int) < (i:Int))) rfl (fun b55=>?_) (fun b55=>?_)
  ·have q55:=of_decide_eq_true b55
   refine Al ?_
   apply k53
   refine Ai fun K56 k56=>?_
   refine Ao ?_
   refine Ai fun K57 k57=>?_
   refine Dc [0,1,2,3,4,5,6,7,8] (by kernel_rfl) rfl rfl ?_
   refine Cd (i:=0) Aos rfl (by kernel_rfl) rfl Ash rfl (Ay Market.f_fields Tryz.underlying36 rfl rfl Se (by decide) h52_1 r2) fun v58 r58=>?_
   refine Cd (i:=1) Aot rfl (by kernel_rfl) rfl Ash rfl (Ax Se rfl r58) fun v59 r59=>?_
   refine Bd (i:=2) Aou rfl (by kernel_rfl) rfl Ash rfl (Ah (v:=(iV ((k:Int)))) h52_7) ?_
   obtain ⟨a61,ha61⟩:=Ed (xs:=m.fields) (i:=k) (by omega)
   refine Cd (i:=3) Aov rfl (by kernel_rfl) rfl Ash rfl (Ch k Tryz.underlying33 Lo rfl r59 (q:=(k:Int)) rfl rfl ha61) fun v60 r60=>?_
   refine Cd (i:=4) Aow rfl (by kernel_rfl) rfl Ash rfl (Ay FField.f_name Tryz.underlying47 rfl rfl ty9 (by decide) rfl r60) fun v62 r62=>?_
   have g63:=At.slen r62
   refine Bd (i:=5) Aox rfl (by kernel_rfl) rfl Ash rfl (Pk ty9 rfl r62) ?_
   refine Hk (i:=6) Aoy rfl (by kernel_rfl) rfl Ash rfl (Ay FField.f_name Tryz.underlying47 rfl rfl ty9 (by decide) h52_6 r41) fun v64 r64=>?_
   have g65:=At.slen r64
   refine Bg (i:=7) Aoz rfl (by kernel_rfl) rfl Ash rfl (Pk ty9 rfl r64) ?_
   refine Bg (i:=8) Apa rfl (by kernel_rfl) rfl Ash rfl (L5y (p:=a61.name) (q:=a38.name) rfl rfl) ?_
   refine Ec rfl ?_
   apply k57
   refine As (t:=(a61.name).toList == (a38.name).toList) rfl (fun b66=>?_) (fun b66=>?_)
   ·have q66:=Jr b66
    refine w_q rfl rfl fun K67 k67=>?_
    refine l_v (Cp (v:=(iV (5))) rfl) ?_
    refine l_k k67 ?_
    refine Aj (Asf (Asi l2 l41)) ?_
    refine Aq ?_
    refine hret _ _ _ ⟨rfl,rfl,Eq.trans (b:=(iV (5))) rfl ?_⟩
    have hi:Cl i (Mk m a38.name) = some k:=Fh p52_1 (by omega) (by simp [Mk,ha61,b8,b15,b22,b32,b46,b49,b55,b66,q8,q15,q22,q32,q55,q66])
    have hf:fieldAt m i = 5:=by simp [fieldAt,ha38,hi,b8,b15,b22,b32,b46,b49,b55,b66,q8,q15,q22,q32,q55,q66]
    have hF:Ew m = 5:=by rw [Ew,if_neg (by omega),Db p26_1 (by omega) hf (by omega)]
    rw [Cf,Gr q8,Gr q15,hF,Ry (by omega)]
   have q66:=Jq b66
   refine Al ?_
   apply k56
   refine Ag rfl rfl ?_
   refine l_v (Ah (v:=(iV ((k:Int)))) h52_7) ?_
   refine l_v (Br rfl rfl (z:=(((k + 1):Nat):Int)) (Bo (by first | rfl | omega | (push_cast; rfl)) (by omega) (by omega))) ?_
   refine l_v (Cp (v:=(iV ((((k + 1):Nat):Int)))) rfl) ?_
   apply Ac
   refine ⟨_,?_,((k + 1)),rfl,rfl,rfl,rfl,h52_1,h52_5,h52_6,rfl,(by omega),(Eg p52_1 (by simp [Mk,ha61,b8,b15,b22,b32,b46,b49,b55,b66,q8,q15,q22,q32,q55,q66])),trivial⟩
   omega
  have q55:=of_decide_eq_false b55
  refine Bx ?_
  apply k50
  refine Asb rfl rfl fun K68 K69 k68 k69=>?_
  refine Arw (Ay FField.f_house Tryz.underlying47 rfl rfl ty3 (by decide) h52_6 r41) fun v70 r70=>?_
  have ⟨g71a,g71b⟩:=At.rng r70
  refine l_v (Bc ty3 rfl r70) ?_
  refine Arw (Ay Market.f_houses Tryz.underlying36 rfl rfl Hw (by decide) h52_1 r2) fun v72 r72=>?_
  refine Arw (Ax Hw rfl r72) fun v73 r73=>?_
  have g74:=Val.len r73
  refine l_v (Ci (el:=9) Tryz.underlying32 rfl r73) ?_
  refine l_v (Ou rfl rfl (z:=(((m.houses.length:Nat):Int) - 1)) (Bo (by first | rfl | omega | (push_cast; rfl)) (by omega) (by omega))) ?_
  refine Arv (Bm (L4f) Tryz.func52 rfl rfl ⟨rfl,rfl,rfl,trivial⟩ ?_)
  refine l_v (Iy rfl) ?_
  refine l_k k69 ?_
  refine As (t:=!(inR a38.house 0 ((((m.houses.length:Nat):Int) - 1)))) rfl (fun b75=>?_) (fun b75=>?_)
  ·have b76:=not_eq_t b75
   have q76:=Tr.1 b76
   refine w_q rfl rfl fun K77 k77=>?_
   refine l_v (Cp (v:=(iV (6))) rfl) ?_
   refine l_k k77 ?_
   refine Aj (Asf (Asi l2 l41)) ?_
   refine Aq ?_
   refine hret _ _ _ ⟨rfl,rfl,Eq.trans (b:=(iV (6))) rfl ?_⟩
   have hi:Cl i (Mk m a38.name) = none:=Ep fun j hj=>p52_1 j (by omega)
   have hf:fieldAt m i = 6:=by simp [fieldAt,ha38,hi,b8,b15,b22,b32,b46,b49,b55,b75,b76,q8,q15,q22,q32,q55,q76]
   have hF:Ew m = 6:=by rw [Ew,if_neg (by omega),Db p26_1 (by omega) hf (by omega)]
   rw [Cf,Gr q8,Gr q15,hF,Ry (by omega)]
  have b78:=not_eq_f b75
  have q78:=Fz.1 b78
  refine Al ?_
  apply k68
  refine Asb rfl rfl fun K79 K80 k79 k80=>?_
  refine Arw (Ay FField.f_grows Tryz.underlying47 rfl rfl Mx (by decide) h52_6 r41) fun v81 r81=>?_
  refine Arw (Ax Mx rfl r81) fun v82 r82=>?_
  refine Arv (Bm (L2k r82) Tryz.func33 rfl rfl ⟨rfl,rfl,rfl,trivial⟩ ?_)
  refine l_v (Iy rfl) ?_
  refine l_k k80 ?_
  refine As (t:=!(Ef a38.grows 0 1000000)) rfl (fun b83=>?_) (fun b83=>?_)
  ·have b84:=not_eq_t b83
   refine w_q rfl rfl fun K85 k85=>?_
   refine l_v (Cp (v:=(iV (1))) rfl) ?_
   refine l_k k85 ?_
   refine Aj (Asf (Asi l2 l41)) ?_
   refine Aq ?_
   refine hret _ _ _ ⟨rfl,rfl,Eq.trans (b:=(iV (1))) rfl ?_⟩
   have hi:Cl i (Mk m a38.name) = none:=Ep fun j hj=>p52_1 j (by omega)
   have hf:fieldAt m i = 1:=by simp [fieldAt,ha38,hi,b8,b15,b22,b32,b46,b49,b55,b75,b78,b83,b84,q8,q15,q22,q32,q55,q78]
   have hF:Ew m = 1:=by rw [Ew,if_neg (by omega),Db p26_1 (by omega) hf (by omega)]
   rw [Cf,Gr q8,Gr q15,hF,Ry (by omega)]
  have b86:=not_eq_f b83
  refine Al ?_
  apply k79
  refine w_q rfl rfl fun K87 k87=>?_
  refine Arw (Ay FField.f_marks Tryz.underlying47 rfl rfl Uo (by decide) h52_6 r41) fun v88 r88=>?_
  refine Arw (Ax Uo rfl r88) fun v89 r89=>?_
  refine Arw (Ay Market.f_marks Tryz.underlying36 rfl rfl Hw (by decide) h52_1 r2) fun v90 r90=>?_
  refine Arw (Ax Hw rfl r90) fun v91 r91=>?_
  have g92:=Val.len r91
  refine l_v (Ci (el:=9) Tryz.underlying32 rfl r91) ?_
  refine Arv (Bm (L4i r89) Tryz.func53 rfl rfl ⟨rfl,rfl,trivial⟩ ?_)
  refine l_v (Cp (v:=(iV (Fm a38.marks (((m.marks.length:Nat):Int))))) rfl) ?_
  refine Arx rfl rfl k87 fun K93 k93=>?_
  refine l_v (Ah (v:=(iV (Fm a38.marks (((m.marks.length:Nat):Int))))) rfl) ?_
  refine l_v (Dg rfl rfl) ?_
  refine l_k k93 ?_
  refine As (t:=Fm a38.marks (((m.marks.length:Nat):Int)) != 0) rfl (fun b94=>?_) (fun b94=>?_)
  ·have q94:=Ls b94
   refine w_q rfl rfl fun K95 k95=>?_
   refine l_v (Ah (v:=(iV (Fm a38.marks (((m.marks.length:Nat):Int))))) rfl) ?_
   refine l_v (Cp (v:=(iV (Fm a38.marks (((m.marks.length:Nat):Int))))) rfl) ?_
   refine l_k k95 ?_
   refine Aj (Asf (Asi l2 l41)) ?_
   refine Aq ?_
   refine hret _ _ _ ⟨rfl,rfl,Eq.trans (b:=(iV (Fm a38.marks (((m.marks.length:Nat):Int))))) rfl ?_⟩
   have hi:Cl i (Mk m a38.name) = none:=Ep fun j hj=>p52_1 j (by omega)
   have hf:fieldAt m i = Fm a38.marks (((m.marks.length:Nat):Int)):=by simp [fieldAt,ha38,hi,b8,b15,b22,b32,b46,b49,b55,b75,b78,b83,b86,b94,q8,q15,q22,q32,q55,q78,q94]
   have hF:Ew m = Fm a38.marks (((m.marks.length:Nat):Int)):=by rw [Ew,if_neg (by omega),Db p26_1 (by omega) hf q94]
   rw [Cf,Gr q8,Gr q15,hF,Ry q94]
  have q94:=Jh b94
  refine Al ?_
  apply k33
  refine Ag rfl rfl ?_
  refine l_v (Ah (v:=(iV ((i:Int)))) h52_5) ?_
  refine l_v (Br rfl rfl (z:=(((i + 1):Nat):Int)) (Bo (by first | rfl | omega | (push_cast; rfl)) (by omega) (by omega))) ?_
  refine l_v (Cp (v:=(iV ((((i + 1):Nat):Int)))) rfl) ?_
  refine Bj (Asf l41) ?_
  apply Ac
  refine ⟨_,?_,((i + 1)),rfl,rfl,rfl,rfl,h52_1,rfl,(by omega),(Eg p26_1 (by
  have hi:Cl i (Mk m a38.name) = none:=Ep fun j hj=>p52_1 j (by omega)
  simp [fieldAt,ha38,hi,b8,b15,b22,b32,b46,b49,b55,b75,b78,b83,b86,b94,q8,q15,q22,q32,q55,q78,q94])),trivial⟩
  omega
 have q32:=of_decide_eq_false b32
 refine Bx ?_
 apply k24
 refine Asb rfl rfl fun K96 K97 k96 k97=>?_
 refine Arw (Ay Market.f_sales Tryz.underlying36 rfl rfl Qn (by decide) h26_1 r2) fun v98 r98=>?_
 refine Arw (Ax Qn rfl r98) fun v99 r99=>?_
 have g100:=Val.len r99
 refine l_v (Ci (el:=146) Tryz.underlying34 rfl r99) ?_
 refine l_v (Gl rfl rfl) ?_
 refine l_k k97 ?_
 refine As (t:=decide (((m.sales.length:Nat):Int) > 8)) rfl (fun b101=>?_) (fun b101=>?_)
 ·have q101:=of_decide_eq_true b101
  refine w_q rfl rfl fun K102 k102=>?_
  refine l_v (Cp (v:=(iV (2))) rfl) ?_
  refine l_k k102 ?_
  refine Aj (Asf l2) ?_
  refine Aq ?_
  refine hret _ _ _ ⟨rfl,rfl,Eq.trans (b:=(iV (2))) rfl ?_⟩
  have hF:Ew m = 0:=by rw [Ew,if_neg (by omega),Fb fun j hj=>p26_1 j (by omega)]
  rw [Cf,Gr q8,Gr q15,Gr hF,Jc,if_pos (by omega)]
 have q101:=of_decide_eq_false b101
 refine Al ?_
 apply k96
 refine Asb rfl rfl fun K103 K104 k103 k104=>?_
 refine l_v (Cp (v:=(iV (0))) rfl) ?_
 refine l_k k104 ?_
 refine Ao ?_
 refine Cc (fun mm ee dd ρ' σ'=>∃ (s:Nat),(m.sales.length - s) = mm∧[] = dd∧ρ2 = ρ'∧σ = σ'∧ee 1 = (.pointer (some ⟨k2,0,none⟩))∧ee 9 = (iV ((s:Int)))∧(s ≤ m.sales.length)∧(∀ j,j < s→Jb m j = 0)∧True) (m:=_) ⟨0,rfl,rfl,rfl,rfl,h26_1,rfl,(Nat.zero_le _),(fun j h=>absurd h (Nat.not_lt_zero _)),trivial⟩ ?_
 rintro m105 e105 _ _ _ ⟨s,rfl,rfl,rfl,rfl,h105_1,h105_9,p105_0,p105_1,_⟩
 refine Asb rfl rfl fun K106 K107 k106 k107=>?_
 refine l_v (Ah (v:=(iV ((s:Int)))) h105_9) ?_
 refine Arw (Ay Market.f_sales Tryz.underlying36 rfl rfl Qn (by decide) h105_1 r2) fun v108 r108=>?_
 refine Arw (Ax Qn rfl r108) fun v109 r109=>?_
 have g110:=Val.len r109
 refine l_v (Ci (el:=146) Tryz.underlying34 rfl r109) ?_
 refine l_v (Da rfl rfl) ?_
 refine l_k k107 ?_
 refine As (t:=decide ((s:Int) < ((m.sales.length:Nat):Int))) rfl (fun b111=>?_) (fun b111=>?_)
 ·have q111:=of_decide_eq_true b111
  refine Al ?_
  apply k106
  refine Ai fun K112 k112=>?_
  refine Ao ?_
  refine w_q rfl rfl fun K113 k113=>?_
  refine Arw (Ay Market.f_sales Tryz.underlying36 rfl rfl Qn (by decide) h105_1 r2) fun v114 r114=>?_
  refine Arw (Ax Qn rfl r114) fun v115 r115=>?_
  refine l_v (Ah (v:=(iV ((s:Int)))) h105_9) ?_
  obtain ⟨a117,ha117⟩:=Ed (xs:=m.sales) (i:=s) (by omega)
  refine Arw (Ch s Tryz.underlying34 Up rfl r115 (q:=(s:Int)) rfl rfl ha117) fun v116 r116=>?_
  refine Arw (Ax Up rfl r116) fun v118 r118=>?_
  refine Arv (Ct Agb fun k119=>?_)
  refine Cx rfl (Dv (v:=v118) (a:=a117) (c:=Akd) Up rfl rfl r118 rfl ?_)
  refine Bb (a:=a117) r118 fun ρ120 l120 r120=>?_
  replace r2:=At.mono l120 r2
  refine Ary rfl rfl k113 fun K121 K122 k121 k122=>?_
  refine Arw (Ay Sale.f_grams Tryz.underlying146 rfl rfl ty3 (by decide) rfl r120) fun v123 r123=>?_
  have ⟨g124a,g124b⟩:=At.rng r123
  refine l_v (Bc ty3 rfl r123) ?_
  refine Arv (Bm (L4f) Tryz.func52 rfl rfl ⟨rfl,rfl,rfl,trivial⟩ ?_)
  refine l_v (Iy rfl) ?_
  refine l_k k122 ?_
  refine As (t:=!(inR a117.grams 0 1000000)) rfl (fun b125=>?_) (fun b125=>?_)
  ·have b126:=not_eq_t b125
   have q126:=Tr.1 b126
   refine w_q rfl rfl fun K127 k127=>?_
   refine l_v (Cp (v:=(iV (1))) rfl) ?_
   refine l_k k127 ?_
   refine Aj (Asf (Asi l2 l120)) ?_
   refine Aq ?_
   refine hret _ _ _ ⟨rfl,rfl,Eq.trans (b:=(iV (1))) rfl ?_⟩
   have hF:Ew m = 0:=by rw [Ew,if_neg (by omega),Fb fun j hj=>p26_1 j (by omega)]
   have hf:Jb m s = 1:=by simp [Jb,ha117,b8,b15,b22,b32,b101,b111,b125,b126,q8,q15,q22,q32,q101,q111,q126]
   rw [Cf,Gr q8,Gr q15,Gr hF,Jc,if_neg (by omega),Db p105_1 (by omega) hf (by omega)]
  have b128:=not_eq_f b125
  have q128:=Fz.1 b128
  refine Al ?_
  apply k121
  refine Asb rfl rfl fun K129 K130 k129 k130=>?_
  refine Arw (Ay Sale.f_sellers Tryz.underlying146 rfl rfl Vh (by decide) rfl r120) fun v131 r131=>?_
  refine Arw (Ax Vh rfl r131) fun v132 r132=>?_
  have g133:=Val.len r132
  refine l_v (Ci (el:=3) Tryz.underlying49 rfl r132) ?_
  refine l_v (Ek rfl rfl) ?_
  refine l_k k130 ?_
  refine As (t:=((a117.sellers.length:Nat):Int) == 0) rfl (fun b134=>?_) (fun b134=>?_)
  ·have q134:=Jr b134
   refine w_q rfl rfl fun K135 k135=>?_
   refine l_v (Cp (v:=(iV (2))) rfl) ?_
   refine l_k k135 ?_
   refine Aj (Asf (Asi l2 l120)) ?_
   refine Aq ?_
   refine hret _ _ _ ⟨rfl,rfl,Eq.trans (b:=(iV (2))) rfl ?_⟩
   have hF:Ew m = 0:=by rw [Ew,if_neg (by omega),Fb fun j hj=>p26_1 j (by omega)]
   have hf:Jb m s = 2:=by simp [Jb,ha117,b8,b15,b22,b32,b101,b111,b125,b128,b134,q8,q15,q22,q32,q101,q111,q128,q134]
   rw [Cf,Gr q8,Gr q15,Gr hF,Jc,if_neg (by omega),Db p105_1 (by omega) hf (by omega)]
  have q134:=Jq b134
  refine Al ?_
  apply k129
  refine w_q rfl rfl fun K136 k136=>?_
  refine l_v (Cp (v:=(iV (0))) rfl) ?_
  refine l_k k136 ?_
  refine Ao ?_
  refine Cc (fun mm ee dd ρ' σ'=>∃ (q:Nat),(a117.sellers.length - q) = mm∧[] = dd∧ρ120 = ρ'∧σ = σ'∧ee 1 = (.pointer (some ⟨k2,0,none⟩))∧ee 9 = (iV ((s:Int)))∧ee 10 = (.pointer (some ⟨k119,0,none⟩))∧ee 11 = (iV ((q:Int)))∧(q ≤ a117.sellers.length)∧(∀ j,j < q→Gt m a117 j = 0)∧True) (m:=_) ⟨0,rfl,rfl,rfl,rfl,h105_1,h105_9,rfl,rfl,(Nat.zero_le _),(fun j h=>absurd h (Nat.not_lt_zero _)),trivial⟩ ?_
  rintro m137 e137 _ _ _ ⟨q,rfl,rfl,rfl,rfl,h137_1,h137_9,h137_10,h137_11,p137_0,p137_1,_⟩
  refine Asb rfl rfl fun K138 K139 k138 k139=>?_
  refine l_v (Ah (v:=(iV ((q:Int)))) h137_11) ?_
  refine Arw (Ay Sale.f_sellers Tryz.underlying146 rfl rfl Vh (by decide) h137_10 r120) fun v140 r140=>?_
  refine Arw (Ax Vh rfl r140) fun v141 r141=>?_
  have g142:=Val.len r141
  refine l_v (Ci (el:=3) Tryz.underlying49 rfl r141) ?_
  refine l_v (Da rfl rfl) ?_
  refine l_k k139 ?_
  refine As (t:=decide ((q:Int) < ((a117.sellers.length:Nat):Int))) rfl (fun b143=>?_) (fun b143=>?_)
  ·have q143:=of_decide_eq_true b143
   refine Al ?_
   apply k138
   refine Ai fun K144 k144=>?_
   refine Ao ?_
   refine Ai fun K145 k145=>?_
   refine Ai fun K146 k146=>?_
   refine Dc [0,1,2,3,4,5,6,7,8,9,10] (by kernel_rfl) rfl rfl ?_
   refine Cd (i:=0) [o1,o0,o0,o0,o0,o0,o0,o0,o0,o0,o0] rfl (by kernel_rfl) rfl Ash rfl (Ay Sale.f_sellers Tryz.underlying146 rfl rfl Vh (by decide) h137_10 r120) fun v147 r147=>?_
   refine Cd (i:=1) [o1,o1,o0,o0,o0,o0,o0,o0,o0,o0,o0] rfl (by kernel_rfl) rfl Ash rfl (Ax Vh rfl r147) fun v148 r148=>?_
   refine Bd (i:=2) [o1,o1,o1,o0,o0,o0,o0,o0,o0,o0,o0] rfl (by kernel_rfl) rfl Ash rfl (Ah (v:=(iV ((q:Int)))) h137_11) ?_
   obtain ⟨a150,ha150⟩:=Ed (xs:=a117.sellers) (i:=q) (by omega)
   refine Cd (i:=3) [o1,o1,o1,o1,o0,o0,o0,o0,o0,o0,o0] rfl (by kernel_rfl) rfl Ash rfl (Ch q Tryz.underlying49 ty3 rfl r148 (q:=(q:Int)) rfl rfl ha150) fun v149 r149=>?_
   have ⟨g151a,g151b⟩:=At.rng r149
   refine Bd (i:=4) [o1,o1,o1,o1,o1,o0,o0,o0,o0,o0,o0] rfl (by kernel_rfl) rfl Ash rfl (Bc ty3 rfl r149) ?_
   refine Hk (i:=5) Aop rfl (by kernel_rfl) rfl Ash rfl (Ay Market.f_houses Tryz.underlying36 rfl rfl Hw (by decide) h137_1 r2) fun v152 r152=>?_
   refine Hk (i:=6) zZ2 rfl (by kernel_rfl) rfl Ash rfl (Ax Hw rfl r152) fun v153 r153=>?_
   have g154:=Val.len r153
   refine Bg (i:=7) zZ3 rfl (by kernel_rfl) rfl Ash rfl (Ci (el:=9) Tryz.underlying32 rfl r153) ?_
   refine Bg (i:=8) zZ4 rfl (by kernel_rfl) rfl Ash rfl (Ou rfl rfl (z:=(((m.houses.length:Nat):Int) - 1)) (Bo (by first | rfl | omega | (push_cast; rfl)) (by omega) (by omega))) ?_
   refine Dj (i:=9) zZ5 rfl (by kernel_rfl) rfl rfl (Bm (L4f) Tryz.func52 rfl rfl ⟨rfl,rfl,rfl,trivial⟩ ⟨Ash,?_⟩)
   refine Bg (i:=10) zZ6 rfl (by kernel_rfl) rfl Ash rfl (Iy rfl) ?_
   refine Ec rfl ?_
   apply k146
   refine As (t:=!(inR a150 0 ((((m.houses.length:Nat):Int) - 1)))) rfl (fun b155=>?_) (fun b155=>?_)
   ·have b156:=not_eq_t b155
    have q156:=Tr.1 b156
    refine w_q rfl rfl fun K157 k157=>?_
    refine l_v (Cp (v:=(iV (6))) rfl) ?_
    refine l_k k157 ?_
    refine Aj (Asf (Asi l2 l120)) ?_
    refine Aq ?_
    refine hret _ _ _ ⟨rfl,rfl,Eq.trans (b:=(iV (6))) rfl ?_⟩
    have hF:Ew m = 0:=by rw [Ew,if_neg (by omega),Fb fun j hj=>p26_1 j (by omega)]
    have hq:Gt m a117 q = 6:=by
     simp [Gt,ha150,b8,b15,b22,b32,b101,b111,b125,b128,b134,b143,b155,b156]
    have hf:Jb m s = 6:=by simp only [Jb,ha117,b8,b15,b22,b32,b101,b111,b125,b128,b134,b143,b155,b156,if_true]; rw [if_neg (by omega),Db p137_1 (by omega) hq (by omega)]
    rw [Cf,Gr q8,Gr q15,Gr hF,Jc,if_neg (by omega),Db p105_1 (by omega) hf (by omega)]
   have b158:=not_eq_f b155
   have q158:=Fz.1 b158
   refine Al ?_
   apply k145
   refine Ai fun K159 k159=>?_
   refine Dc [0,1,2,3,4,5,6,7,8,9,10,11,12,13,14,15] (by kernel_rfl) rfl rfl ?_
   refine Bg (i:=0) Aqz rfl (by kernel_rfl) rfl Ash rfl (Ah (v:=(iV ((q:Int)))) h137_11) ?_
   refine Bg (i:=1) Ara rfl (by kernel_rfl) rfl Ash rfl (Gl rfl rfl) ?_
   refine Bg (i:=2) Arb rfl (by kernel_rfl) rfl Ash rfl (Ah (v:=(.bool (decide ((q:Int) > 0)))) rfl) ?_
   refine Akk (decide ((q:Int) > 0)) (fun b160=>?_) (fun b160=>?_)
   ·have q160:=of_decide_eq_true b160
    refine Cd (i:=3) Arc rfl (by kernel_rfl) rfl Ash (Ar rfl rfl rfl b160) (Ay Sale.f_sellers Tryz.underlying146 rfl rfl Vh (by decide) h137_10 r120) fun v161 r161=>?_
    refine Cd (i:=4) Ard rfl (by kernel_rfl) rfl Ash (Ar rfl rfl rfl b160) (Ax Vh rfl r161) fun v162 r162=>?_
    refine Bd (i:=5) Are rfl (by kernel_rfl) rfl Ash (Ar rfl rfl rfl b160) (Ah (v:=(iV ((q:Int)))) h137_11) ?_
    refine Cd (i:=6) Arf rfl (by kernel_rfl) rfl Ash (Ar rfl rfl rfl b160) (Ch q Tryz.underlying49 ty3 rfl r162 (q:=(q:Int)) rfl rfl ha150) fun v163 r163=>?_
    have ⟨g164a,g164b⟩:=At.rng r163
    refine Bd (i:=7) Anr rfl (by kernel_rfl) rfl Ash (Ar rfl rfl rfl b160) (Bc ty3 rfl r163) ?_
    refine Cd (i:=8) Ans rfl (by kernel_rfl) rfl Ash (Ar rfl rfl rfl b160) (Ay Sale.f_sellers Tryz.underlying146 rfl rfl Vh (by decide) h137_10 r120) fun v165 r165=>?_
    refine Cd (i:=9) Ant rfl (by kernel_rfl) rfl Ash (Ar rfl rfl rfl b160) (Ax Vh rfl r165) fun v166 r166=>?_
    refine Bg (i:=10) [o1,o1,o1,o1,o1,o1,o1,o1,o1,o1,o1,o0,o0,o0,o0,o0] rfl (by kernel_rfl) rfl Ash (Ar rfl rfl rfl b160) (Ah (v:=(iV ((q:Int)))) h137_11) ?_
    refine Bg (i:=11) [o1,o1,o1,o1,o1,o1,o1,o1,o1,o1,o1,o1,o0,o0,o0,o0] rfl (by kernel_rfl) rfl Ash (Ar rfl rfl rfl b160) (Ou rfl rfl (z:=((q:Int) - 1)) (Bo (by first | rfl | omega | (push_cast; rfl)) (by omega) (by omega))) ?_
    obtain ⟨a168,ha168⟩:=Ed (xs:=a117.sellers) (i:=(((q:Int) - 1)).toNat) (by omega)
    refine Hk (i:=12) Anu rfl (by kernel_rfl) rfl Ash (Ar rfl rfl rfl b160) (Ch ((((q:Int) - 1)).toNat) Tryz.underlying49 ty3 rfl r166 (q:=((q:Int) - 1)) rfl (by omega) ha168) fun v167 r167=>?_
    have ⟨g169a,g169b⟩:=At.rng r167
    refine Bg (i:=13) Anv rfl (by kernel_rfl) rfl Ash (Ar rfl rfl rfl b160) (Bc ty3 rfl r167) ?_
    refine Bg (i:=14) Anw rfl (by kernel_rfl) rfl Ash (Ar rfl rfl rfl b160) (Uz rfl rfl) ?_
    refine Bg (i:=15) Anx rfl (by kernel_rfl) rfl Ash rfl (Bt rfl b160 (v:=(.bool (decide (a150 ≤ a168)))) rfl) ?_
    refine Ec rfl ?_
    apply k159
    refine As (t:=decide (a150 ≤ a168)) rfl (fun b170=>?_) (fun b170=>?_)
    ·have q170:=of_decide_eq_true b170
     refine w_q rfl rfl fun K171 k171=>?_
     refine l_v (Cp (v:=(iV (7))) rfl) ?_
     refine l_k k171 ?_
     refine Aj (Asf (Asi l2 l120)) ?_
     refine Aq ?_
     refine hret _ _ _ ⟨rfl,rfl,Eq.trans (b:=(iV (7))) rfl ?_⟩
     have hF:Ew m = 0:=by rw [Ew,if_neg (by omega),Fb fun j hj=>p26_1 j (by omega)]
     have hq:Gt m a117 q = 7:=by
      have hp:a117.sellers[q - 1]? = some a168:=by rw [← ha168]; congr 1; omega
      have h0:0 < q:=by omega
      simp only [Gt,ha150,if_pos h0,hp,b8,b15,b22,b32,b101,b111,b125,b128,b134,b143,b155,b158,b160,b170,if_true]; first | rw [if_pos (by omega)] | rw [if_neg (by omega)]
     have hf:Jb m s = 7:=by simp only [Jb,ha117,b8,b15,b22,b32,b101,b111,b125,b128,b134,b143,b155,b158,b160,b170,if_true]; rw [if_neg (by omega),Db p137_1 (by omega) hq (by omega)]
     rw [Cf,Gr q8,Gr q15,Gr hF,Jc,if_neg (by omega),Db p105_1 (by omega) hf (by omega)]
    have q170:=of_decide_eq_false b170
    refine Al ?_
    apply k144
    refine Ag rfl rfl ?_
    refine l_v (Ah (v:=(iV ((q:Int)))) h137_11) ?_
    refine l_v (Br rfl rfl (z:=(((q + 1):Nat):Int)) (Bo (by first | rfl | omega | (push_cast; rfl)) (by omega) (by omega))) ?_
    refine l_v (Cp (v:=(iV ((((q + 1):Nat):Int)))) rfl) ?_
    apply Ac
    refine ⟨_,?_,((q + 1)),rfl,rfl,rfl,rfl,h137_1,h137_9,h137_10,rfl,(by omega),(Eg p137_1 (by
 have hp:a117.sellers[q - 1]? = some a168:=by rw [← ha168]; congr 1; omega
 have h0:0 < q:=by omega
 simp only [Gt,ha150,if_pos h0,hp,b8,b15,b22,b32,b101,b111,b125,b128,b134,b143,b155,b158,b160,b170,if_true]; first | rw [if_pos (by omega)] | rw [if_neg (by omega)])),trivial⟩
    omega
   have q160:=of_decide_eq_false b160
   refine Sw (i:=3) Arc rfl (by kernel_rfl) rfl Ash (Bl rfl rfl rfl b160) ?_
   refine Sw (i:=4) Ard rfl (by kernel_rfl) rfl Ash (Bl rfl rfl rfl b160) ?_
   refine Sw (i:=5) Are rfl (by kernel_rfl) rfl Ash (Bl rfl rfl rfl b160) ?_
   refine Sw (i:=6) Arf rfl (by kernel_rfl) rfl Ash (Bl rfl rfl rfl b160) ?_
   refine Sw (i:=7) Anr rfl (by kernel_rfl) rfl Ash (Bl rfl rfl rfl b160) ?_
   refine Sw (i:=8) Ans rfl (by kernel_rfl) rfl Ash (Bl rfl rfl rfl b160) ?_
   refine Sw (i:=9) Ant rfl (by kernel_rfl) rfl Ash (Bl rfl rfl rfl b160) ?_
   refine Wv (i:=10) [o1,o1,o1,o1,o1,o1,o1,o1,o1,o1,o1,o0,o0,o0,o0,o0] rfl (by kernel_rfl) rfl Ash (Bl rfl rfl rfl b160) ?_
   refine Wv (i:=11) [o1,o1,o1,o1,o1,o1,o1,o1,o1,o1,o1,o1,o0,o0,o0,o0] rfl (by kernel_rfl) rfl Ash (Bl rfl rfl rfl b160) ?_
   refine Wv (i:=12) Anu rfl (by kernel_rfl) rfl Ash (Bl rfl rfl rfl b160) ?_
   refine Wv (i:=13) Anv rfl (by kernel_rfl) rfl Ash (Bl rfl rfl rfl b160) ?_
   refine Wv (i:=14) Anw rfl (by kernel_rfl) rfl Ash (Bl rfl rfl rfl b160) ?_
   refine Bg (i:=15) Anx rfl (by kernel_rfl) rfl Ash rfl (Bn rfl b160 (v:=(.bool (false))) rfl) ?_
   refine Ec rfl ?_
   apply k159
   refine Cg rfl rfl ?_
   refine Al ?_
   apply k144
   refine Ag rfl rfl ?_
   refine l_v (Ah (v:=(iV ((q:Int)))) h137_11) ?_
   refine l_v (Br rfl rfl (z:=(((q + 1):Nat):Int)) (Bo (by first | rfl | omega | (push_cast; rfl)) (by omega) (by omega))) ?_
   refine l_v (Cp (v:=(iV ((((q + 1):Nat):Int)))) rfl) ?_
   apply Ac
   refine ⟨_,?_,((q + 1)),rfl,rfl,rfl,rfl,h137_1,h137_9,h137_10,rfl,(by omega),(Eg p137_1 (by
 have h0:¬ 0 < q:=by omega
 simp [Gt,ha150,if_neg h0,b8,b15,b22,b32,b101,b111,b125,b128,b134,b143,b155,b158,b160])),trivial⟩
   omega
  have q143:=of_decide_eq_false b143
  refine Bx ?_
  apply k112
  refine Ag rfl rfl ?_
  refine l_v (Ah (v:=(iV ((s:Int)))) h137_9) ?_
  refine l_v (Br rfl rfl (z:=(((s + 1):Nat):Int)) (Bo (by first | rfl | omega | (push_cast; rfl)) (by omega) (by omega))) ?_
  refine l_v (Cp (v:=(iV ((((s + 1):Nat):Int)))) rfl) ?_
  refine Bj (Asf l120) ?_
  apply Ac
  refine ⟨_,?_,((s + 1)),rfl,rfl,rfl,rfl,h137_1,rfl,(by omega),(Eg p105_1 (by
  simp only [Jb,ha117,b8,b15,b22,b32,b101,b111,b125,b128,b134,b143,if_true]; rw [if_neg (by omega),Fb fun j hj=>p137_1 j (by omega)])),trivial⟩
  omega
 have q111:=of_decide_eq_false b111
 refine Bx ?_
 apply k103
 refine w_q rfl rfl fun K172 k172=>?_
 refine l_v (Cp (v:=(iV (0))) rfl) ?_
 refine l_k k172 ?_
 refine Aj (Asf l2) ?_
 refine Aq ?_
 refine hret _ _ _ ⟨rfl,rfl,Eq.trans (b:=(iV (0))) rfl ?_⟩
 have hF:Ew m = 0:=by rw [Ew,if_neg (by omega),Fb fun j hj=>p26_1 j (by omega)]
 rw [Cf,Gr q8,Gr q15,Gr hF,Jc,if_neg (by omega),Fb fun j hj=>p105_1 j (by omega)]
end Go.Proofs.YtphgjjmlnkgghaaGreatDoor

namespace Go.Proofs.YtphgjjmlnkgghaaGreatDoor
open Go
theorem L5i {l:List Int} {n:Int} (h:∀ j,j < l.length→l[j]? ≠ some n):n ∉ l:=fun hm=>by
  obtain ⟨i,hi⟩:=List.getElem?_of_mem hm
  exact h i (List.getElem?_eq_some_iff.1 hi).1 hi
end Go.Proofs.YtphgjjmlnkgghaaGreatDoor

namespace Go.Proofs.YtphgjjmlnkgghaaGreatDoor
set_option maxHeartbeats 1000000
open Go
set_option maxRecDepth 100000 in
theorem L6p {mn:Bool} {X:Frame→List Frame→Ro→Own→Cy→Prop} {ρ:Ro} {σ:Own} {l:List Int} {vl:Value} {n:Int} (rl:Val ρ vl l):CallsH (CX mn X) 15 #[vl,(iV (n))] ρ σ (fun w ρ' σ'=>ρ' = ρ∧σ' = σ∧w = (.bool (decide (n ∈ l)))):=by
 refine Bh (n:=18) (args:=[vl,(iV (n))]) [4] Tryz.func15 rfl rfl rfl rfl fun Q hret hnor=>?_
 refine w_q rfl rfl fun K1 k1=>?_
 refine l_v (Cp (v:=(.bool (false))) rfl) ?_
 refine Ary rfl rfl k1 fun K2 K3 k2 k3=>?_
 refine l_v (Cp (v:=(iV (0))) rfl) ?_
 refine l_k k3 ?_
 refine Ao ?_
 refine Cc (fun mm ee dd ρ' σ'=>∃ (i:Nat),(l.length - i) = mm∧[] = dd∧ρ = ρ'∧σ = σ'∧ee 0 = vl∧ee 1 = (iV (n))∧ee 5 = (iV ((i:Int)))∧(i ≤ l.length)∧(∀ j,j < i→l[j]? ≠ some n)∧True) (m:=_) ⟨0,rfl,rfl,rfl,rfl,rfl,rfl,rfl,(Nat.zero_le _),(fun j h=>absurd h (Nat.not_lt_zero _)),trivial⟩ ?_
 rintro m4 e4 _ _ _ ⟨i,rfl,rfl,rfl,rfl,h4_0,h4_1,h4_5,p4_0,p4_1,_⟩
 refine Asb rfl rfl fun K5 K6 k5 k6=>?_
 refine l_v (Ah (v:=(iV ((i:Int)))) h4_5) ?_
 refine l_v (Ah (v:=vl) h4_0) ?_
 have g7:=Val.len rl
 refine l_v (Ci (el:=3) Tryz.underlying49 rfl rl) ?_
 refine l_v (Da rfl rfl) ?_
 refine l_k k6 ?_
 refine As (t:=decide ((i:Int) < ((l.length:Nat):Int))) rfl (fun b8=>?_) (fun b8=>?_)
 ·have q8:=of_decide_eq_true b8
  refine Al ?_
  apply k5
  refine Ai fun K9 k9=>?_
  refine Ao ?_
  refine w_q rfl rfl fun K10 k10=>?_
  refine l_v (Ah (v:=vl) h4_0) ?_
  refine l_v (Ah (v:=(iV ((i:Int)))) h4_5) ?_
  obtain ⟨a12,ha12⟩:=Ed (xs:=l) (i:=i) (by omega)
  refine Arw (Ch i Tryz.underlying49 ty3 rfl rl (q:=(i:Int)) rfl rfl ha12) fun v11 r11=>?_
  have ⟨g13a,g13b⟩:=At.rng r11
  refine l_v (Bc ty3 rfl r11) ?_
  refine l_v (Ah (v:=(iV (n))) h4_1) ?_
  refine l_v (Ek rfl rfl) ?_
  refine l_k k10 ?_
  refine As (t:=a12 == n) rfl (fun b14=>?_) (fun b14=>?_)
  ·have q14:=Jr b14
   refine w_q rfl rfl fun K15 k15=>?_
   refine l_v (Cp (v:=(.bool (true))) rfl) ?_
   refine l_k k15 ?_
   refine Aq ?_
   refine hret _ _ _ ⟨rfl,rfl,Eq.trans (b:=(.bool (true))) rfl ?_⟩
   rw [decide_eq_true (List.mem_of_getElem? (i:=i) (by rw [ha12,q14]))]
  have q14:=Jq b14
  refine Al ?_
  apply k9
  refine Ag rfl rfl ?_
  refine l_v (Ah (v:=(iV ((i:Int)))) h4_5) ?_
  refine l_v (Br rfl rfl (z:=(((i + 1):Nat):Int)) (Bo (by first | rfl | omega | (push_cast; rfl)) (by omega) (by omega))) ?_
  refine l_v (Cp (v:=(iV ((((i + 1):Nat):Int)))) rfl) ?_
  apply Ac
  refine ⟨_,?_,((i + 1)),rfl,rfl,rfl,rfl,h4_0,h4_1,rfl,(by omega),(Eg p4_1 (fun h=>by rw [ha12] at h; injection h with h1; exact q14 h1)),trivial⟩
  omega
 have q8:=of_decide_eq_false b8
 refine Bx ?_
 apply k2
 refine w_q rfl rfl fun K16 k16=>?_
 refine l_v (Cp (v:=(.bool (false))) rfl) ?_
 refine l_k k16 ?_
 refine Aq ?_
 refine hret _ _ _ ⟨rfl,rfl,Eq.trans (b:=(.bool (false))) rfl ?_⟩
 rw [decide_eq_false (L5i fun j hj=>p4_1 j (by omega))]
end Go.Proofs.YtphgjjmlnkgghaaGreatDoor

namespace Go.Proofs.YtphgjjmlnkgghaaGreatDoor
open Go
/-- Ascending lists of numbers from one on,below another one. -/
def asc (f b:Nat):List Nat→Prop
  | []=>True
  | i :: l=>f ≤ i∧i < b∧asc (i + 1) b l
end Go.Proofs.YtphgjjmlnkgghaaGreatDoor

namespace Go.Proofs.YtphgjjmlnkgghaaGreatDoor
open Go
theorem L3l {σ:Own} {k:Nat} {o:Obj} (h:Jp σ):Jp ((k,Res.obj o) :: σ):=fun c vs hm=>by
  rcases List.mem_cons.1 hm with e | hm
  · injection e with _ e; cases e
  · exact h c vs hm
end Go.Proofs.YtphgjjmlnkgghaaGreatDoor

namespace Go.Proofs.YtphgjjmlnkgghaaGreatDoor
open Go Go.WideShapes
/-- A number without a sign of two bytes. -/
structure UH where
  n:Nat
  lt:n < 65536
instance:Dat UH where
  k:=1
  agg:=false
  rep _ cs x:=cs = [.int .u16 (x.n:Int)]
  mono _ h:=h
  len h:=by rw [h]; rfl
  sgl h:=by rw [h]; simp [single]
  one _:=rfl
theorem L8c {ρ:Ro} {v:Value} {x:UH}:Val ρ v x↔v = .int .u16 (x.n:Int) :=
  ⟨fun ⟨cs,h1,h2⟩=>by rw [h2,show cs = [.int .u16 (x.n:Int)] from h1]; rfl,fun h=>⟨[v],by rw [h]; rfl,rfl⟩⟩
theorem L8f:GoTy Tryz.prog 75 UH:=⟨⟨_,Tryz.underlying75,rfl⟩,⟨_,Ab Tryz.typeInfo75,rfl⟩⟩
theorem L6l {P:Program} {ρ:Ro} {e:Env} {ty t:TypeId} {x:Operand} {p:Value} {a:UH} (hT:GoTy P t UH) (hx:Af e x = p) (hp:At ρ p a):Yld P ρ e (.load t x) ty (.int .u16 (a.n:Int)):=by
  obtain ⟨v,h1,h2⟩:=Ax (ty:=ty) hT hx hp
  rw [L8c.1 h1] at h2; exact h2
theorem L7z {t:TypeId} (ht:Tryz.prog.underlying t = some (.int .u16)) (hc:Tryz.prog.cellsOf t = 1):Api UH t :=
  ⟨hc,fun H enc W fuel cs x h _=>by
    obtain ⟨n,h1,_,h3⟩:=DataW.trod_int ht h
    simp [Lit.wf,IntKind.min,IntKind.max,IntKind.signed,IntKind.bits] at h3
    refine ⟨⟨n.toNat,by omega⟩,?_⟩
    show cs = [.int .u16 ((n.toNat:Nat):Int)]
    rw [h1,Int.toNat_of_nonneg (by omega)]⟩
section
variable {H:Type} {enc:TypeId × Value→H} {W:World} {r:Reach} {base t:Nat} {v:Value} {d:DataW H} {p:List MemPlace}
end
/-- The k-th choice,or 0. -/
def L0e (l:List UH) (k:Nat):Nat:=match l[k]? with | some x=>x.n | none=>0
theorem L3j {l:List UH} {k:Nat}:L0e l k < 65536:=by
  unfold L0e; split
  · rename_i x _; exact x.lt
  · decide
theorem L5e {l:List UH} {k:Nat} {x:UH} (h:l[k]? = some x):L0e l k = x.n:=by unfold L0e; rw [h]
theorem L4w {l:List UH} {k:Nat} (h:l.length ≤ k):L0e l k = 0:=by unfold L0e; rw [List.getElem?_eq_none h]
end Go.Proofs.YtphgjjmlnkgghaaGreatDoor

namespace Go.Proofs.YtphgjjmlnkgghaaGreatDoor
open Go
theorem L6k {l:List Span} {n:Nat} (hn:l.length = n) (h:∀ (i:Nat) (x:Span),l[i]? = some x→Qt x):Fm l (n:Int) = 0:=by
  rw [Zj]; exact ⟨by rw [hn],h⟩
theorem L3x {m:Market} {l:List Span} (h:Cf m = 0) (hn:l.length = m.marks.length) (hs:∀ (i:Nat) (x:Span),l[i]? = some x→Qt x):Ee m l = 0:=by
  unfold Ee; rw [Jx]; exact ⟨h,L6k hn hs⟩
theorem L4b {fa fb:FField} {marks:List Span} {p:Int}:Gm fa fb marks p = true↔∀ k,k < marks.length→Ho fa fb marks p k = false:=by
  unfold Gm
  rcases Ft (n:=marks.length) (p:=Ho fa fb marks p) with ⟨i,hi,hp,_,he⟩ | ⟨h1,he⟩
  · rw [he]
    constructor
    · intro h; cases h
    · intro h; have:=h i hi; rw [hp] at this; cases this
  · rw [he]; exact ⟨fun _=>h1,fun _=>rfl⟩
/-- What really is of a field can be of it. -/
theorem L4c {m:Market} {marks:List Span} {i:Nat} {f:FField} {v:Nat→Int} (hf:m.fields[i]? = some f) (hA:Ee m marks = 0)
    (hv:∀ (j:Nat) (y:Span),f.marks[j]? = some y→y.low ≤ v j∧v j ≤ y.high) (hx:∀ (j:Nat) (x:Span),marks[j]? = some x→x.low ≤ v j∧v j ≤ x.high):(i:Int) ∈ Sn m marks:=by
  unfold Sn
  rw [if_pos hA,List.mem_map]
  refine ⟨i,List.mem_filter.2 ⟨List.mem_range.2 (List.getElem?_eq_some_iff.1 hf).1,?_⟩,rfl⟩
  unfold Iv
  rw [hf]
  simp only
  rw [L4b]
  intro k hk
  unfold Ho
  split
  · rename_i a b x ha hb hx'
    rw [ha] at hb; cases hb
    have h1:=hv k a ha
    have h2:=hx k x hx'
    unfold Tz
    simp only [Bool.or_eq_false_iff,decide_eq_false_iff_not]
    omega
  · rfl
/-- Marks that are known better never add a field. -/
theorem L5j {m:Market} {own wide:List Span} (hA:Ee m wide = 0) (hl:own.length = wide.length)
    (h:∀ (j:Nat) (x y:Span),own[j]? = some x→wide[j]? = some y→y.low ≤ x.low∧x.high ≤ y.high) {z:Int} (hz:z ∈ Sn m own):z ∈ Sn m wide:=by
  unfold Sn at hz ⊢
  rw [if_pos hA]
  split at hz
  · obtain ⟨i,hi,rfl⟩:=List.mem_map.1 hz
    obtain ⟨h1,h2⟩:=List.mem_filter.1 hi
    refine List.mem_map.2 ⟨i,List.mem_filter.2 ⟨h1,?_⟩,rfl⟩
    unfold Iv at h2 ⊢
    cases hf:m.fields[i]? with
    | none=>rw [hf] at h2; cases h2
    | some f =>
      rw [hf] at h2
      simp only at h2 ⊢
      rw [L4b] at h2 ⊢
      intro k hk
      have h3:=h2 k (by omega)
      have hx:own[k]? = some own[k]:=List.getElem?_eq_getElem (by omega)
      unfold Ho at h3 ⊢
      rw [hx] at h3
      split
      · rename_i a b y ha hb hy
        rw [ha] at hb; cases hb
        rw [ha] at h3
        simp only at h3
        have:=h k _ _ hx hy
        unfold Tz at h3 ⊢
        simp only [Bool.or_eq_false_iff,decide_eq_false_iff_not] at h3 ⊢
        omega
      · rfl
  · cases hz
end Go.Proofs.YtphgjjmlnkgghaaGreatDoor

namespace Go.Proofs.YtphgjjmlnkgghaaGreatDoor
set_option maxHeartbeats 1000000
open Go
set_option maxRecDepth 100000 in
theorem L4v {mn:Bool} {X:Frame→List Frame→Ro→Own→Cy→Prop} {ρ:Ro} {σ:Own} {picks:List UH} {vk:Value} {k:Nat} (rk:Val ρ vk picks):CallsH (CX mn X) 10 #[vk,(iV ((k:Int)))] ρ σ (fun w ρ' σ'=>ρ' = ρ∧σ' = σ∧w = (iV (((L0e picks k:Nat):Int)))):=by
 refine Bh (n:=14) (args:=[vk,(iV ((k:Int)))]) [4] Tryz.func10 rfl rfl rfl rfl fun Q hret hnor=>?_
 refine w_q rfl rfl fun K1 k1=>?_
 refine l_v (Cp (v:=(iV (0))) rfl) ?_
 refine Ary rfl rfl k1 fun K2 K3 k2 k3=>?_
 refine l_v (Ah (v:=(iV ((k:Int)))) rfl) ?_
 refine l_v (Ah (v:=vk) rfl) ?_
 have g4:=Val.len rk
 refine l_v (Ci (el:=75) Tryz.underlying27 rfl rk) ?_
 refine l_v (Da rfl rfl) ?_
 refine l_k k3 ?_
 refine As (t:=decide ((k:Int) < ((picks.length:Nat):Int))) rfl (fun b5=>?_) (fun b5=>?_)
 ·have q5:=of_decide_eq_true b5
  refine w_q rfl rfl fun K6 k6=>?_
  refine l_v (Ah (v:=vk) rfl) ?_
  refine l_v (Ah (v:=(iV ((k:Int)))) rfl) ?_
  obtain ⟨a8,ha8⟩:=Ed (xs:=picks) (i:=k) (by omega)
  refine Arw (Ch k Tryz.underlying27 L8f rfl rk (q:=(k:Int)) rfl rfl ha8) fun v7 r7=>?_
  have g9:=a8.lt
  refine l_v (L6l L8f rfl r7) ?_
  refine l_v (Acf (p:=((a8.n:Nat):Int)) (z:=((a8.n:Nat):Int)) Tryz.underlying75 Tryz.underlying3 rfl (Bo rfl (by omega) (by omega))) ?_
  refine l_v (Cp (v:=(iV (((a8.n:Nat):Int)))) rfl) ?_
  refine l_k k6 ?_
  refine Aq ?_
  refine hret _ _ _ ⟨rfl,rfl,Eq.trans (b:=(iV (((a8.n:Nat):Int)))) rfl ?_⟩
  rw [L5e ha8]
 have q5:=of_decide_eq_false b5
 refine Al ?_
 apply k2
 refine w_q rfl rfl fun K10 k10=>?_
 refine l_v (Cp (v:=(iV (0))) rfl) ?_
 refine l_k k10 ?_
 refine Aq ?_
 refine hret _ _ _ ⟨rfl,rfl,Eq.trans (b:=(iV (0))) rfl ?_⟩
 rw [L4w (by omega)]; rfl
end Go.Proofs.YtphgjjmlnkgghaaGreatDoor

namespace Go.Proofs.YtphgjjmlnkgghaaGreatDoor
set_option maxHeartbeats 1000000
open Go
section
variable {P:Program} {ρ:Ro} {e:Env} {ty:TypeId} {x y:Operand}
end
section
variable {m:Market} {picks:List UH} {i k p:Nat} {f g:FField}
end
section
variable {mn:Bool} {X:Frame→List Frame→Ro→Own→Cy→Prop} {ρ:Ro} {σ:Own}
theorem L6a {m:Market} {marks:List Span} {vm vk:Value} {l:List Int} (hA:Ee m marks = 0) (hl:Sn m marks = l) (rm:Val ρ vm m) (rk:Val ρ vk marks):CallsH (CX mn X) 14 #[vm,vk] ρ σ (fun w ρ' σ'=>Ro.le ρ ρ'∧σ' = σ∧∃ v0,w = .tuple #[v0,.int .i64 0]∧Val ρ' v0 (l:List Int)):=by
 have h:=Agu (mn:=mn) (X:=X) (σ:=σ) rm rk
 rw [show Sm m marks = 0 by unfold Sm; rw [hA]; rfl,hl] at h; exact h
end
end Go.Proofs.YtphgjjmlnkgghaaGreatDoor

namespace Go.Proofs.YtphgjjmlnkgghaaGreatDoor
set_option maxHeartbeats 1000000
open Go
structure GPoint where
  read:Int
  value:Int
deriving DecidableEq
instance:Dat GPoint:=.iso fun x=>(x.read,x.value)
theorem GPoint.f_read:Fld GPoint (Int) 0 GPoint.read:=⟨fun ρ cs x=>(Fld.fst:Fld ((Int) × (Int)) (Int) 0 _).at_ ρ cs (x.read,x.value)⟩
theorem GPoint.f_value:Fld GPoint (Int) 1 GPoint.value:=⟨fun ρ cs x=>((.snd Fld.self):Fld ((Int) × (Int)) (Int) 1 _).at_ ρ cs (x.read,x.value)⟩
theorem GPoint.open_ {ρ:Ro} {v:Value} {x:GPoint} (h:Val ρ v x):v = .agg #[.int .i64 x.read,.int .i64 x.value]∧I64 x.read∧I64 x.value:=by
  obtain ⟨cs,⟨q0,r0,f0,⟨a1,b1⟩,⟨a2,b2⟩⟩,hv⟩:=h
  subst f0
  subst a1
  subst a2
  exact ⟨hv,b1,b2⟩
theorem GPoint.shut {ρ:Ro} {x:GPoint} (h0:I64 x.read) (h1:I64 x.value):Val ρ (.agg #[.int .i64 x.read,.int .i64 x.value]) x:=⟨[.int .i64 x.read,.int .i64 x.value],⟨[.int .i64 x.read],[.int .i64 x.value],rfl,⟨rfl,h0⟩,⟨rfl,h1⟩⟩,rfl⟩
structure Meas where
  name:ByteArray
  points:List GPoint
deriving DecidableEq
instance:Dat Meas:=.iso fun x=>(x.name,x.points)
theorem Meas.f_name:Fld Meas (ByteArray) 0 Meas.name:=⟨fun ρ cs x=>(Fld.fst:Fld ((ByteArray) × (List GPoint)) (ByteArray) 0 _).at_ ρ cs (x.name,x.points)⟩
theorem Meas.f_points:Fld Meas (List GPoint) 1 Meas.points:=⟨fun ρ cs x=>((.snd Fld.self):Fld ((ByteArray) × (List GPoint)) (List GPoint) 1 _).at_ ρ cs (x.name,x.points)⟩
theorem Meas.open_ {ρ:Ro} {v:Value} {x:Meas} (h:Val ρ v x):∃ c0,v = .agg #[.string x.name,c0]∧x.name.size < 2 ^ 60∧Val ρ c0 x.points:=by
  obtain ⟨cs,⟨q0,r0,f0,⟨a1,b1⟩,⟨w2,a2,b2⟩⟩,hv⟩:=h
  subst f0
  subst a1
  subst a2
  exact ⟨w2,hv,b1,Cs.2 b2⟩
theorem Meas.shut {ρ:Ro} {x:Meas} {c0:Value} (h0:x.name.size < 2 ^ 60) (h1:Val ρ c0 x.points):Val ρ (.agg #[.string x.name,c0]) x:=⟨[.string x.name,c0],⟨[.string x.name],[c0],rfl,⟨rfl,h0⟩,⟨c0,rfl,Cs.1 h1⟩⟩,rfl⟩
structure GGrade where
  name:ByteArray
  limits:List Span
  worth:Int
deriving DecidableEq
instance:Dat GGrade:=.iso fun x=>(x.name,(x.limits,x.worth))
theorem GGrade.f_name:Fld GGrade (ByteArray) 0 GGrade.name:=⟨fun ρ cs x=>(Fld.fst:Fld ((ByteArray) × (List Span) × (Int)) (ByteArray) 0 _).at_ ρ cs (x.name,(x.limits,x.worth))⟩
theorem GGrade.f_limits:Fld GGrade (List Span) 1 GGrade.limits:=⟨fun ρ cs x=>((.snd Fld.fst):Fld ((ByteArray) × (List Span) × (Int)) (List Span) 1 _).at_ ρ cs (x.name,(x.limits,x.worth))⟩
theorem GGrade.f_worth:Fld GGrade (Int) 2 GGrade.worth:=⟨fun ρ cs x=>((.snd (.snd Fld.self)):Fld ((ByteArray) × (List Span) × (Int)) (Int) 2 _).at_ ρ cs (x.name,(x.limits,x.worth))⟩
theorem GGrade.open_ {ρ:Ro} {v:Value} {x:GGrade} (h:Val ρ v x):∃ c0,v = .agg #[.string x.name,c0,.int .i64 x.worth]∧x.name.size < 2 ^ 60∧Val ρ c0 x.limits∧I64 x.worth:=by
  obtain ⟨cs,⟨q0,r0,f0,⟨a1,b1⟩,⟨q2,r2,f2,⟨w3,a3,b3⟩,⟨a4,b4⟩⟩⟩,hv⟩:=h
  subst f0
  subst f2
  subst a1
  subst a3
  subst a4
  exact ⟨w3,hv,b1,Cs.2 b3,b4⟩
theorem GGrade.shut {ρ:Ro} {x:GGrade} {c0:Value} (h0:x.name.size < 2 ^ 60) (h1:Val ρ c0 x.limits) (h2:I64 x.worth):Val ρ (.agg #[.string x.name,c0,.int .i64 x.worth]) x:=⟨[.string x.name,c0,.int .i64 x.worth],⟨[.string x.name],([c0] ++ [.int .i64 x.worth]),rfl,⟨rfl,h0⟩,⟨[c0],[.int .i64 x.worth],rfl,⟨c0,rfl,Cs.1 h1⟩,⟨rfl,h2⟩⟩⟩,rfl⟩
structure GRule where
  measures:List Meas
  grades:List GGrade
deriving DecidableEq
instance:Dat GRule:=.iso fun x=>(x.measures,x.grades)
theorem GRule.f_measures:Fld GRule (List Meas) 0 GRule.measures:=⟨fun ρ cs x=>(Fld.fst:Fld ((List Meas) × (List GGrade)) (List Meas) 0 _).at_ ρ cs (x.measures,x.grades)⟩
theorem GRule.f_grades:Fld GRule (List GGrade) 1 GRule.grades:=⟨fun ρ cs x=>((.snd Fld.self):Fld ((List Meas) × (List GGrade)) (List GGrade) 1 _).at_ ρ cs (x.measures,x.grades)⟩
theorem GRule.open_ {ρ:Ro} {v:Value} {x:GRule} (h:Val ρ v x):∃ c0 c1,v = .agg #[c0,c1]∧Val ρ c0 x.measures∧Val ρ c1 x.grades:=by
  obtain ⟨cs,⟨q0,r0,f0,⟨w1,a1,b1⟩,⟨w2,a2,b2⟩⟩,hv⟩:=h
  subst f0
  subst a1
  subst a2
  exact ⟨w1,w2,hv,Cs.2 b1,Cs.2 b2⟩
theorem GRule.shut {ρ:Ro} {x:GRule} {c0 c1:Value} (h0:Val ρ c0 x.measures) (h1:Val ρ c1 x.grades):Val ρ (.agg #[c0,c1]) x:=⟨[c0,c1],⟨[c0],[c1],rfl,⟨c0,rfl,Cs.1 h0⟩,⟨c1,rfl,Cs.1 h1⟩⟩,rfl⟩
structure Ratio where
  num:Int
  den:Int
deriving DecidableEq
instance:Dat Ratio:=.iso fun x=>(x.num,x.den)
theorem Ratio.f_num:Fld Ratio (Int) 0 Ratio.num:=⟨fun ρ cs x=>(Fld.fst:Fld ((Int) × (Int)) (Int) 0 _).at_ ρ cs (x.num,x.den)⟩
theorem Ratio.f_den:Fld Ratio (Int) 1 Ratio.den:=⟨fun ρ cs x=>((.snd Fld.self):Fld ((Int) × (Int)) (Int) 1 _).at_ ρ cs (x.num,x.den)⟩
theorem Ratio.open_ {ρ:Ro} {v:Value} {x:Ratio} (h:Val ρ v x):v = .agg #[.int .i64 x.num,.int .i64 x.den]∧I64 x.num∧I64 x.den:=by
  obtain ⟨cs,⟨q0,r0,f0,⟨a1,b1⟩,⟨a2,b2⟩⟩,hv⟩:=h
  subst f0
  subst a1
  subst a2
  exact ⟨hv,b1,b2⟩
theorem Ratio.shut {ρ:Ro} {x:Ratio} (h0:I64 x.num) (h1:I64 x.den):Val ρ (.agg #[.int .i64 x.num,.int .i64 x.den]) x:=⟨[.int .i64 x.num,.int .i64 x.den],⟨[.int .i64 x.num],[.int .i64 x.den],rfl,⟨rfl,h0⟩,⟨rfl,h1⟩⟩,rfl⟩
structure Scale where
  points:List GPoint
deriving DecidableEq
instance:Dat Scale:=.iso fun x=>x.points
theorem Scale.f_points:Fld Scale (List GPoint) 0 Scale.points:=⟨fun ρ cs x=>(Fld.self:Fld ((List GPoint)) (List GPoint) 0 _).at_ ρ cs x.points⟩
theorem Scale.open_ {ρ:Ro} {v:Value} {x:Scale} (h:Val ρ v x):∃ c0,v = .agg #[c0]∧Val ρ c0 x.points:=by
  obtain ⟨cs,⟨w0,a0,b0⟩,hv⟩:=h
  subst a0
  exact ⟨w0,hv,Cs.2 b0⟩
theorem Scale.shut {ρ:Ro} {x:Scale} {c0:Value} (h0:Val ρ c0 x.points):Val ρ (.agg #[c0]) x:=⟨[c0],⟨c0,rfl,Cs.1 h0⟩,rfl⟩
structure Gauge where
  scale:Scale
  reads:Span
deriving DecidableEq
instance:Dat Gauge:=.iso fun x=>(x.scale,x.reads)
theorem Gauge.f_scale:Fld Gauge (Scale) 0 Gauge.scale:=⟨fun ρ cs x=>(Fld.fst:Fld ((Scale) × (Span)) (Scale) 0 _).at_ ρ cs (x.scale,x.reads)⟩
theorem Gauge.f_reads:Fld Gauge (Span) 1 Gauge.reads:=⟨fun ρ cs x=>((.snd Fld.self):Fld ((Scale) × (Span)) (Span) 1 _).at_ ρ cs (x.scale,x.reads)⟩
theorem Gauge.open_ {ρ:Ro} {v:Value} {x:Gauge} (h:Val ρ v x):∃ c0,v = .agg #[c0,.int .i64 x.reads.low,.int .i64 x.reads.high]∧Val ρ c0 x.scale.points∧I64 x.reads.low∧I64 x.reads.high:=by
  obtain ⟨cs,⟨q0,r0,f0,⟨w1,a1,b1⟩,⟨q2,r2,f2,⟨a3,b3⟩,⟨a4,b4⟩⟩⟩,hv⟩:=h
  subst f0
  subst f2
  subst a1
  subst a3
  subst a4
  exact ⟨w1,hv,Cs.2 b1,b3,b4⟩
theorem Gauge.shut {ρ:Ro} {x:Gauge} {c0:Value} (h0:Val ρ c0 x.scale.points) (h1:I64 x.reads.low) (h2:I64 x.reads.high):Val ρ (.agg #[c0,.int .i64 x.reads.low,.int .i64 x.reads.high]) x:=⟨[c0,.int .i64 x.reads.low,.int .i64 x.reads.high],⟨[c0],([.int .i64 x.reads.low] ++ [.int .i64 x.reads.high]),rfl,⟨c0,rfl,Cs.1 h0⟩,⟨[.int .i64 x.reads.low],[.int .i64 x.reads.high],rfl,⟨rfl,h1⟩,⟨rfl,h2⟩⟩⟩,rfl⟩
theorem L0t:GoTy Tryz.prog 227 GPoint:=⟨⟨_,Tryz.underlying227,rfl⟩,⟨_,Ab Tryz.typeInfo227,rfl⟩⟩
theorem L1f:GoTy Tryz.prog 39 Meas:=⟨⟨_,Tryz.underlying39,rfl⟩,⟨_,Ab Tryz.typeInfo39,rfl⟩⟩
theorem L1x:GoTy Tryz.prog 100 GGrade:=⟨⟨_,Tryz.underlying100,rfl⟩,⟨_,Ab Tryz.typeInfo100,rfl⟩⟩
theorem L1e:GoTy Tryz.prog 25 GRule:=⟨⟨_,Tryz.underlying25,rfl⟩,⟨_,Ab Tryz.typeInfo25,rfl⟩⟩
theorem L1h:GoTy Tryz.prog 136 Ratio:=⟨⟨_,Tryz.underlying136,rfl⟩,⟨_,Ab Tryz.typeInfo136,rfl⟩⟩
theorem L4q:GoTy Tryz.prog 132 Scale:=⟨⟨_,Tryz.underlying132,rfl⟩,⟨_,Ab Tryz.typeInfo132,rfl⟩⟩
theorem L2i:GoTy Tryz.prog 134 Gauge:=⟨⟨_,Tryz.underlying134,rfl⟩,⟨_,Ab Tryz.typeInfo134,rfl⟩⟩
theorem L0g:GoTy Tryz.prog 22 (List Meas):=⟨⟨_,Tryz.underlying22,rfl⟩,⟨_,Ab Tryz.typeInfo22,rfl⟩⟩
theorem L0s:GoTy Tryz.prog 23 (List GGrade):=⟨⟨_,Tryz.underlying23,rfl⟩,⟨_,Ab Tryz.typeInfo23,rfl⟩⟩
theorem L0j:GoTy Tryz.prog 37 (List GPoint):=⟨⟨_,Tryz.underlying37,rfl⟩,⟨_,Ab Tryz.typeInfo37,rfl⟩⟩
def L3s:List Value:=[.int .i64 0,.int .i64 0]
theorem L3t:Fw Tryz.prog 227 (.agg #[.int .i64 0,.int .i64 0]):=⟨_,Ab Tryz.typeInfo227,rfl⟩
def L5l:List Value:=[.string (ByteArray.mk #[]),.slice none 0 0]
theorem L5m:Fw Tryz.prog 39 (.agg #[.string (ByteArray.mk #[]),.slice none 0 0]):=⟨_,Ab Tryz.typeInfo39,rfl⟩
def L7g:List Value:=[.string (ByteArray.mk #[]),.slice none 0 0,.int .i64 0]
theorem L7i:Fw Tryz.prog 100 (.agg #[.string (ByteArray.mk #[]),.slice none 0 0,.int .i64 0]):=⟨_,Ab Tryz.typeInfo100,rfl⟩
def L1z:List Value:=[.int .i64 0,.int .i64 0]
theorem L1p:Fw Tryz.prog 136 (.agg #[.int .i64 0,.int .i64 0]):=⟨_,Ab Tryz.typeInfo136,rfl⟩
def L8d:List Value:=[.slice none 0 0]
theorem L8e:Fw Tryz.prog 132 (.agg #[.slice none 0 0]):=⟨_,Ab Tryz.typeInfo132,rfl⟩
def L7h:List Value:=[.slice none 0 0,.int .i64 0,.int .i64 0]
theorem L5n:Fw Tryz.prog 134 (.agg #[.slice none 0 0,.int .i64 0,.int .i64 0]):=⟨_,Ab Tryz.typeInfo134,rfl⟩
end Go.Proofs.YtphgjjmlnkgghaaGreatDoor

namespace Go.Proofs.YtphgjjmlnkgghaaGreatDoor
set_option maxHeartbeats 1000000
open Go
def L1s (l:List GPoint) (i:Nat):Int:=match l[i]? with
  | none=>0
  | some p=>if inR p.read 0 1000 && inR p.value (-10000) 10000 then (match (if 0 < i then l[i - 1]? else none) with | some q=>if p.read ≤ q.read then 7 else 0 | none=>0) else 1
def L0h (l:List GPoint):Int:=if inR (l.length:Int) 1 6 then Hl l.length (L1s l) else 2
def L3p (l:List Span) (i:Nat):Int:=match l[i]? with | some x=>if Ef x (-10000) 10000 then 0 else 1 | none=>0
def L0r (n:Int) (l:List Span):Int:=if (l.length:Int) = n then Hl l.length (L3p l) else 2
def L0x (r:GRule) (s:ByteArray) (k:Nat):Bool:=match r.measures[k]? with | some x=>x.name.toList == s.toList | none=>false
def L0v (r:GRule) (s:ByteArray) (k:Nat):Bool:=match r.grades[k]? with | some x=>x.name.toList == s.toList | none=>false
def L0p (r:GRule) (i:Nat):Int:=match r.measures[i]? with
  | none=>0
  | some x=>if Hg x.name then (if (Cl i (L0x r x.name)).isSome then 5 else L0h x.points) else 4
def L0i (r:GRule) (i:Nat):Int:=match r.grades[i]? with
  | none=>0
  | some x=>if Hg x.name then (if (Cl i (L0v r x.name)).isSome then 5 else orF (L0r (r.measures.length:Int) x.limits) (if inR x.worth 0 1000 then 0 else 1)) else 4
def L0q (r:GRule):Int:=if inR (r.measures.length:Int) 1 6 then orF (Hl r.measures.length (L0p r)) (if (r.grades.length:Int) > 5 then 2 else Hl r.grades.length (L0i r)) else 2
def L2g (l:List Span) (i:Nat):Int:=match l[i]? with | some x=>if Ef x 0 1000 then 0 else 1 | none=>0
def L0f (r:GRule) (l:List Span):Int:=orF (L0q r) (if (l.length:Int) = (r.measures.length:Int) then Hl l.length (L2g l) else 2)
/-- What is so of the points of a measure. -/
structure PtsOk (l:List GPoint):Prop where
  ne:1 ≤ l.length
  n6:l.length ≤ 6
  pt:∀ (i:Nat) (p:GPoint),l[i]? = some p→(0 ≤ p.read∧p.read ≤ 1000)∧(-10000 ≤ p.value∧p.value ≤ 10000)
  asc:∀ (i:Nat) (p q:GPoint),l[i]? = some p→l[i + 1]? = some q→p.read < q.read
theorem L6i {l:List GPoint} (h:L0h l = 0):PtsOk l:=by
  unfold L0h at h
  split at h
  · rename_i hn
    have hn:=Fz.1 hn
    rw [Fx] at h
    have key:∀ (i:Nat) (p:GPoint),l[i]? = some p→((0 ≤ p.read∧p.read ≤ 1000)∧(-10000 ≤ p.value∧p.value ≤ 10000))∧∀ q,(if 0 < i then l[i - 1]? else none) = some q→q.read < p.read:=fun i p hp=>by
      have h1:=h i (List.getElem?_eq_some_iff.1 hp).1
      simp only [L1s,hp] at h1
      split at h1
      · rename_i hb
        rw [Bool.and_eq_true,Fz,Fz] at hb
        refine ⟨hb,fun q hq=>?_⟩
        rw [hq] at h1
        simp only at h1
        split at h1
        · cases h1
        · omega
      · cases h1
    exact ⟨by omega,by omega,fun i p hp=>(key i p hp).1,fun i p q hp hq=>(key (i + 1) q hq).2 p (by rw [if_pos (by omega)]; exact hp)⟩
  · cases h
theorem PtsOk.mono {l:List GPoint} (ok:PtsOk l) {i j:Nat} {p q:GPoint} (hij:i < j) (hp:l[i]? = some p) (hq:l[j]? = some q):p.read < q.read:=by
  induction j generalizing q with
  | zero=>omega
  | succ j ih =>
    have hlt:=(List.getElem?_eq_some_iff.1 hq).1
    have hj:l[j]? = some l[j]:=List.getElem?_eq_getElem (by omega)
    have h1:=ok.asc j _ q hj hq
    rcases Nat.lt_or_ge i j with h | h
    · have:=ih h hj; omega
    · obtain rfl:i = j:=by omega
      rw [hj] at hp; cases hp; exact h1
structure RuleOk (r:GRule):Prop where
  n1:1 ≤ r.measures.length
  n6:r.measures.length ≤ 6
  meas:∀ (i:Nat) (x:Meas),r.measures[i]? = some x→Hg x.name = true∧(∀ k,k < i→L0x r x.name k = false)∧PtsOk x.points
theorem L3c {r:GRule} (h:L0q r = 0):RuleOk r:=by
  unfold L0q at h
  split at h
  · rename_i hn
    have hn:=Fz.1 hn
    rw [Jx,Fx] at h
    refine ⟨by omega,by omega,fun i x hx=>?_⟩
    have h1:=h.1 i (List.getElem?_eq_some_iff.1 hx).1
    simp only [L0p,hx] at h1
    split at h1
    · rename_i ha
      split at h1
      · cases h1
      · rename_i hb
        exact ⟨ha,Fs.1 (by simpa using hb),L6i h1⟩
    · cases h1
  · cases h
structure ReadsOk (r:GRule) (l:List Span):Prop where
  len:l.length = r.measures.length
  at_:∀ (i:Nat) (x:Span),l[i]? = some x→0 ≤ x.low∧x.low ≤ x.high∧x.high ≤ 1000
theorem L1u {r:GRule} {l:List Span}:L0f r l = 0↔L0q r = 0∧ReadsOk r l:=by
  unfold L0f
  rw [Jx]
  constructor
  · rintro ⟨h1,h2⟩
    split at h2
    · rename_i hl
      rw [Fx] at h2
      refine ⟨h1,by omega,fun i x hx=>?_⟩
      have h3:=h2 i (List.getElem?_eq_some_iff.1 hx).1
      simp only [L2g,hx] at h3
      split at h3
      · rename_i hi; exact Re.1 hi
      · cases h3
    · cases h2
  · rintro ⟨h1,h2⟩
    refine ⟨h1,?_⟩
    rw [if_pos (by have:=h2.len; omega),Fx]
    intro i hi
    have hx:l[i]? = some l[i]:=List.getElem?_eq_getElem hi
    simp only [L2g,hx]
    rw [if_pos (Re.2 (h2.at_ i _ hx))]
def L5t (l:List GPoint) (n:Int):Option Nat:=Cl l.length (atP l fun p=>decide (p.read > n))
def ptG (l:List GPoint) (i:Nat):GPoint:=l.getD i ⟨0,0⟩
/-- The value of a reading,as a fraction. -/
def L0b (l:List GPoint) (n:Int):Ratio:=match L5t l n with
  | none=>⟨(ptG l (l.length - 1)).value,1⟩
  | some 0=>⟨(ptG l 0).value,1⟩
  | some (i + 1)=>⟨(ptG l i).value * ((ptG l (i + 1)).read - n) + (ptG l (i + 1)).value * (n - (ptG l i).read),(ptG l (i + 1)).read - (ptG l i).read⟩
theorem L3m {l:List GPoint} {i:Nat} {p:GPoint} (h:l[i]? = some p):ptG l i = p:=by unfold ptG; rw [List.getD_eq_getElem?_getD,h]; rfl
theorem L1w {l:List GPoint} {i:Nat} (h:i < l.length):l[i]? = some (ptG l i):=by
  have hx:l[i]? = some l[i]:=List.getElem?_eq_getElem h
  rw [hx,L3m hx]
theorem L5g {l:List GPoint} {n:Int}:(∃ i,i < l.length∧(ptG l i).read > n∧(∀ j,j < i→(ptG l j).read ≤ n)∧L5t l n = some i)∨((∀ j,j < l.length→(ptG l j).read ≤ n)∧L5t l n = none):=by
  have e:∀ j,j < l.length→(atP l (fun p=>decide (p.read > n)) j = decide ((ptG l j).read > n)):=fun j hj=>by unfold atP; rw [L1w hj]
  rcases Ft (n:=l.length) (p:=atP l fun p=>decide (p.read > n)) with ⟨i,h1,h2,h3,h4⟩ | ⟨h1,h2⟩
  · refine .inl ⟨i,h1,?_,fun j hj=>?_,h4⟩
    · rw [e i h1] at h2; simpa using h2
    · have:=h3 j hj; rw [e j (by omega)] at this; simpa using this
  · refine .inr ⟨fun j hj=>?_,h2⟩
    have:=h1 j hj; rw [e j hj] at this; simpa using this
theorem L7t {v d:Int} (hv:-10000 ≤ v∧v ≤ 10000) (hd:0 ≤ d∧d ≤ 1000):-10000000 ≤ v * d∧v * d ≤ 10000000:=by
  have h1:v * d ≤ 10000 * d:=Int.mul_le_mul_of_nonneg_right hv.2 hd.1
  have h2:(-10000) * d ≤ v * d:=Int.mul_le_mul_of_nonneg_right hv.1 hd.1
  omega
theorem L3q {l:List GPoint} (ok:PtsOk l) {n:Int} (hn:0 ≤ n∧n ≤ 1000):1 ≤ (L0b l n).den∧(L0b l n).den ≤ 1000∧-20000000 ≤ (L0b l n).num∧(L0b l n).num ≤ 20000000:=by
  unfold L0b
  have h0:=ok.ne
  rcases L5g (l:=l) (n:=n) with ⟨i,h1,h2,h3,h4⟩ | ⟨h1,h2⟩
  · rw [h4]
    cases i with
    | zero=>have:=(ok.pt 0 _ (L1w h1)).2; simp only; omega
    | succ i =>
      have ha:=ok.pt i _ (L1w (by omega))
      have hb:=ok.pt (i + 1) _ (L1w h1)
      have hc:=ok.asc i _ _ (L1w (by omega)) (L1w h1)
      have hd:=h3 i (by omega)
      have m1:=L7t (v:=(ptG l i).value) (d:=(ptG l (i + 1)).read - n) ha.2 (by omega)
      have m2:=L7t (v:=(ptG l (i + 1)).value) (d:=n - (ptG l i).read) hb.2 (by omega)
      simp only
      omega
  · rw [h2]
    have:=(ok.pt (l.length - 1) _ (L1w (by omega))).2
    simp only; omega
def L0c (r:Ratio):Int:=r.num / r.den
def upI (r:Ratio):Int:=-((-r.num) / r.den)
theorem L7o {r:Ratio} (h:1 ≤ r.den):L0c r ≤ upI r:=by
  unfold L0c upI
  have h1:=Int.ediv_mul_le r.num (show r.den ≠ 0 by omega)
  have h2:=Int.ediv_mul_le (-r.num) (show r.den ≠ 0 by omega)
  have h3:(r.num / r.den + (-r.num) / r.den) * r.den ≤ 0:=by rw [Int.add_mul]; omega
  have h4:r.num / r.den + (-r.num) / r.den ≤ 0:=by
    rcases Int.lt_or_le 0 (r.num / r.den + (-r.num) / r.den) with h | h
    · have:0 < (r.num / r.den + (-r.num) / r.den) * r.den:=Int.mul_pos h (by omega)
      omega
    · exact h
  omega
theorem L4j {r:Ratio} (h:1 ≤ r.den) (hn:-20000000 ≤ r.num∧r.num ≤ 20000000):-20000000 ≤ L0c r∧L0c r ≤ 20000000:=by
  unfold L0c
  constructor
  · rw [Int.le_ediv_iff_mul_le (by omega)]
    have:(-20000000) * r.den ≤ -20000000 * 1:=Int.mul_le_mul_of_nonpos_left (by omega) (by omega)
    omega
  · rcases Int.lt_or_le r.num 0 with h' | h'
    · have:=Int.ediv_neg_of_neg_of_pos h' (show 0 < r.den by omega); omega
    · have:=Int.ediv_le_self r.den h'; omega
theorem L7w {r:Ratio} (h:1 ≤ r.den) (hn:-20000000 ≤ r.num∧r.num ≤ 20000000):-20000000 ≤ upI r∧upI r ≤ 20000000:=by
  have:=L4j (r:=⟨-r.num,r.den⟩) h (by simp only; omega)
  unfold L0c at this
  unfold upI
  simp only at this
  omega
/-- The span of the values,of the first so many readings. -/
def L1d (l:List GPoint) (low:Int) (k:Nat):Span:=(List.range k).foldl (fun s (j:Nat)=>⟨min s.low (L0c (L0b l (low + (j:Int)))),max s.high (upI (L0b l (low + (j:Int))))⟩) ⟨L0c (L0b l low),upI (L0b l low)⟩
def L1j (l:List GPoint) (x:Span):Span:=L1d l x.low (x.high - x.low + 1).toNat
theorem L5b {l:List GPoint} {low:Int} {k:Nat}:L1d l low (k + 1) = ⟨min (L1d l low k).low (L0c (L0b l (low + (k:Int)))),max (L1d l low k).high (upI (L0b l (low + (k:Int))))⟩:=by
  unfold L1d
  rw [List.range_succ,List.foldl_append]; rfl
theorem L2w {l:List GPoint} {low:Int}:∀ k,(∀ j,j < k→(L1d l low k).low ≤ L0c (L0b l (low + (j:Int)))∧upI (L0b l (low + (j:Int))) ≤ (L1d l low k).high) ∧
    (∃ j,(j = 0∨j < k)∧(L1d l low k).low = L0c (L0b l (low + (j:Int))))∧∃ j,(j = 0∨j < k)∧(L1d l low k).high = upI (L0b l (low + (j:Int)))
  | 0=>⟨fun j h=>absurd h (Nat.not_lt_zero _),⟨0,.inl rfl,by simp [L1d]⟩,⟨0,.inl rfl,by simp [L1d]⟩⟩
  | k + 1=>by
    obtain ⟨h1,⟨a,ha,ea⟩,⟨b,hb,eb⟩⟩:=L2w (l:=l) (low:=low) k
    rw [L5b]
    refine ⟨fun j hj=>?_,?_,?_⟩
    · rcases Nat.lt_or_ge j k with h | h
      · have:=h1 j h; simp only; omega
      · obtain rfl:j = k:=by omega
        simp only; omega
    · rcases Int.lt_or_le (L0c (L0b l (low + (k:Int)))) (L1d l low k).low with h | h
      · exact ⟨k,.inr (by omega),by simp only; omega⟩
      · exact ⟨a,ha.imp id (fun h=>by omega),by simp only; omega⟩
    · rcases Int.lt_or_le (L1d l low k).high (upI (L0b l (low + (k:Int)))) with h | h
      · exact ⟨k,.inr (by omega),by simp only; omega⟩
      · exact ⟨b,hb.imp id (fun h=>by omega),by simp only; omega⟩
theorem L2h {l:List GPoint} {x:Span} (hx:x.low ≤ x.high):(∀ n,x.low ≤ n→n ≤ x.high→(L1j l x).low ≤ L0c (L0b l n)∧upI (L0b l n) ≤ (L1j l x).high) ∧
    (∃ n,x.low ≤ n∧n ≤ x.high∧(L1j l x).low = L0c (L0b l n))∧∃ n,x.low ≤ n∧n ≤ x.high∧(L1j l x).high = upI (L0b l n):=by
  obtain ⟨h1,⟨a,ha,ea⟩,⟨b,hb,eb⟩⟩:=L2w (l:=l) (low:=x.low) (x.high - x.low + 1).toNat
  refine ⟨fun n h2 h3=>?_,⟨x.low + (a:Int),by omega,by omega,ea⟩,⟨x.low + (b:Int),by omega,by omega,eb⟩⟩
  have:=h1 (n - x.low).toNat (by omega)
  rw [show x.low + ((n - x.low).toNat:Int) = n by omega] at this
  exact this
/-- Fewer readings,a narrower span; it is never empty. -/
theorem L6j {l:List GPoint} {x y:Span} (hx:x.low ≤ x.high) (h1:y.low ≤ x.low) (h2:x.high ≤ y.high):(L1j l y).low ≤ (L1j l x).low∧(L1j l x).high ≤ (L1j l y).high:=by
  obtain ⟨_,⟨a,a1,a2,a3⟩,⟨b,b1,b2,b3⟩⟩:=L2h (l:=l) hx
  obtain ⟨h3,_⟩:=L2h (l:=l) (x:=y) (by omega)
  have:=h3 a (by omega) (by omega)
  have:=h3 b (by omega) (by omega)
  omega
theorem L6z {l:List GPoint} (ok:PtsOk l) {x:Span} (h0:0 ≤ x.low) (hx:x.low ≤ x.high) (h1:x.high ≤ 1000):(L1j l x).low ≤ (L1j l x).high∧-20000000 ≤ (L1j l x).low∧(L1j l x).high ≤ 20000000:=by
  obtain ⟨h3,⟨a,a1,a2,a3⟩,⟨b,b1,b2,b3⟩⟩:=L2h (l:=l) hx
  have hd:=L3q ok (n:=a) (by omega)
  have he:=L3q ok (n:=b) (by omega)
  have:=h3 a a1 a2
  have:=L7o (r:=L0b l a) (by omega)
  have:=L4j (r:=L0b l a) (by omega) (by omega)
  have:=L7w (r:=L0b l b) (by omega) (by omega)
  omega
def L4a (r:GRule) (i:Nat):List GPoint:=match r.measures[i]? with | some x=>x.points | none=>[]
def L3n (l:List Span) (i:Nat):Span:=l.getD i ⟨0,0⟩
theorem L1v {l:List Span} {i:Nat} {p:Span} (h:l[i]? = some p):L3n l i = p:=by unfold L3n; rw [List.getD_eq_getElem?_getD,h]; rfl
/-- The values that readings can have. -/
def L0u (r:GRule) (l:List Span) (k:Nat):List Span:=(List.range k).map fun i=>L1j (L4a r i) (L3n l i)
def L0a (r:GRule) (l:List Span):List Span:=if L0f r l = 0 then L0u r l r.measures.length else []
theorem L1m {r:GRule} {l:List Span} {k:Nat}:L0u r l (k + 1) = L0u r l k ++ [L1j (L4a r k) (L3n l k)]:=by
  unfold L0u; rw [List.range_succ,List.map_append]; rfl
theorem L1g {r:GRule} {l:List Span} (h:L0f r l = 0):(L0a r l).length = r.measures.length:=by unfold L0a; rw [if_pos h]; simp [L0u]
theorem L3r {r:GRule} {l:List Span} (h:L0f r l = 0) {i:Nat} {y:Span} (hy:(L0a r l)[i]? = some y):∃ (x:Meas) (z:Span),r.measures[i]? = some x∧l[i]? = some z∧y = L1j x.points z∧PtsOk x.points∧(0 ≤ z.low∧z.low ≤ z.high∧z.high ≤ 1000):=by
  obtain ⟨h1,h2⟩:=L1u.1 h
  unfold L0a at hy
  rw [if_pos h] at hy
  unfold L0u at hy
  rw [List.getElem?_map] at hy
  obtain ⟨a,ha,rfl⟩:=Option.map_eq_some_iff.1 hy
  obtain ⟨hlt,h3⟩:=List.getElem?_eq_some_iff.1 ha
  simp only [List.getElem_range] at h3
  subst h3
  rw [List.length_range] at hlt
  have hx:r.measures[i]? = some r.measures[i]:=List.getElem?_eq_getElem hlt
  have hz:l[i]? = some (l[i]'(by rw [h2.len]; exact hlt)):=List.getElem?_eq_getElem _
  exact ⟨_,_,hx,hz,by rw [L1v hz]; unfold L4a; rw [hx],((L3c h1).meas i _ hx).2.2,h2.at_ i _ hz⟩
end Go.Proofs.YtphgjjmlnkgghaaGreatDoor

namespace Go.Proofs.YtphgjjmlnkgghaaGreatDoor
set_option maxHeartbeats 1000000
open Go
set_option maxRecDepth 100000 in
theorem L6m {mn:Bool} {X:Frame→List Frame→Ro→Own→Cy→Prop} {ρ:Ro} {σ:Own} {r:GRule} {vr:Value} (rr:Val ρ vr r):CallsH (CX mn X) 7 #[vr] ρ σ (fun w ρ' σ'=>ρ' = ρ∧σ' = σ∧∃ b:Bool,w = .bool b):=by
 refine Bh (n:=65) (args:=[vr]) [2] Tryz.func7 rfl rfl rfl rfl fun Q hret hnor=>?_
 refine w_q rfl rfl fun K1 k1=>?_
 refine Arv (Eb (v:=vr) rfl fun k2=>?_)
 refine Bb (a:=r) rr fun ρ2 l2 r2=>?_
 refine l_v (Cp (v:=(.bool (false))) rfl) ?_
 refine Ary rfl rfl k1 fun K3 K4 k3 k4=>?_
 refine Arw (Ay GRule.f_measures Tryz.underlying25 rfl rfl L0g (by decide) rfl r2) fun v5 r5=>?_
 refine Arw (Ax L0g rfl r5) fun v6 r6=>?_
 have g7:=Val.len r6
 refine l_v (Ci (el:=39) Tryz.underlying22 rfl r6) ?_
 refine l_v (Gl rfl rfl) ?_
 refine l_v (Ah (v:=(.bool (decide (((r.measures.length:Nat):Int) > 40)))) rfl) ?_
 refine Cn (decide (((r.measures.length:Nat):Int) > 40)) (fun b8=>?_) (fun b8=>?_)
 ·have q8:=of_decide_eq_true b8
  refine Ap (Bl rfl rfl rfl b8) ?_
  refine Ap (Bl rfl rfl rfl b8) ?_
  refine Ap (Bl rfl rfl rfl b8) ?_
  refine Ap (Bl rfl rfl rfl b8) ?_
  refine l_v (Bt rfl b8 (v:=(.bool (true))) rfl) ?_
  refine l_k k4 ?_
  refine Co rfl rfl ?_
  refine w_q rfl rfl fun K9 k9=>?_
  refine l_v (Cp (v:=(.bool (true))) rfl) ?_
  refine l_k k9 ?_
  refine Aj (Asf l2) ?_
  refine Aq ?_
  refine hret _ _ _ ?_
  exact ⟨rfl,rfl,_,rfl⟩
 have q8:=of_decide_eq_false b8
 refine Ak (Ar rfl rfl rfl b8) (Ay GRule.f_grades Tryz.underlying25 rfl rfl L0s (by decide) rfl r2) fun v10 r10=>?_
 refine Ak (Ar rfl rfl rfl b8) (Ax L0s rfl r10) fun v11 r11=>?_
 have g12:=Val.len r11
 refine Aa (Ar rfl rfl rfl b8) (Ci (el:=100) Tryz.underlying23 rfl r11) ?_
 refine Aa (Ar rfl rfl rfl b8) (Gl rfl rfl) ?_
 refine l_v (Bn rfl b8 (v:=(.bool (decide (((r.grades.length:Nat):Int) > 40)))) rfl) ?_
 refine l_k k4 ?_
 refine As (t:=decide (((r.grades.length:Nat):Int) > 40)) rfl (fun b13=>?_) (fun b13=>?_)
 ·have q13:=of_decide_eq_true b13
  refine w_q rfl rfl fun K14 k14=>?_
  refine l_v (Cp (v:=(.bool (true))) rfl) ?_
  refine l_k k14 ?_
  refine Aj (Asf l2) ?_
  refine Aq ?_
  refine hret _ _ _ ?_
  exact ⟨rfl,rfl,_,rfl⟩
 have q13:=of_decide_eq_false b13
 refine Al ?_
 apply k3
 refine Asb rfl rfl fun K15 K16 k15 k16=>?_
 refine l_v (Cp (v:=(iV (0))) rfl) ?_
 refine l_k k16 ?_
 refine Ao ?_
 refine Cc (fun mm ee dd ρ' σ'=>∃ (i:Nat),(r.measures.length - i) = mm∧[] = dd∧ρ2 = ρ'∧σ = σ'∧ee 1 = (.pointer (some ⟨k2,0,none⟩))∧ee 3 = (iV ((i:Int)))∧(i ≤ r.measures.length)∧True) (m:=_) ⟨0,rfl,rfl,rfl,rfl,rfl,rfl,(Nat.zero_le _),trivial⟩ ?_
 rintro m17 e17 _ _ _ ⟨i,rfl,rfl,rfl,rfl,h17_1,h17_3,p17_0,_⟩
 refine Asb rfl rfl fun K18 K19 k18 k19=>?_
 refine l_v (Ah (v:=(iV ((i:Int)))) h17_3) ?_
 refine Arw (Ay GRule.f_measures Tryz.underlying25 rfl rfl L0g (by decide) h17_1 r2) fun v20 r20=>?_
 refine Arw (Ax L0g rfl r20) fun v21 r21=>?_
 have g22:=Val.len r21
 refine l_v (Ci (el:=39) Tryz.underlying22 rfl r21) ?_
 refine l_v (Da rfl rfl) ?_
 refine l_k k19 ?_
 refine As (t:=decide ((i:Int) < ((r.measures.length:Nat):Int))) rfl (fun b23=>?_) (fun b23=>?_)
 ·have q23:=of_decide_eq_true b23
  refine Al ?_
  apply k18
  refine Ai fun K24 k24=>?_
  refine Ao ?_
  refine w_q rfl rfl fun K25 k25=>?_
  refine Arw (Ay GRule.f_measures Tryz.underlying25 rfl rfl L0g (by decide) h17_1 r2) fun v26 r26=>?_
  refine Arw (Ax L0g rfl r26) fun v27 r27=>?_
  refine l_v (Ah (v:=(iV ((i:Int)))) h17_3) ?_
  obtain ⟨a29,ha29⟩:=Ed (xs:=r.measures) (i:=i) (by omega)
  refine Arw (Ch i Tryz.underlying22 L1f rfl r27 (q:=(i:Int)) rfl rfl ha29) fun v28 r28=>?_
  refine Arw (Ay Meas.f_name Tryz.underlying39 rfl rfl ty9 (by decide) rfl r28) fun v30 r30=>?_
  have g31:=At.slen r30
  refine l_v (Pk ty9 rfl r30) ?_
  refine l_v (Afz Tryz.underlying9 (s:=a29.name) rfl) ?_
  refine l_v (Gl rfl rfl) ?_
  refine l_v (Ah (v:=(.bool (decide (((a29.name.size:Nat):Int) > 100)))) rfl) ?_
  refine Cn (decide (((a29.name.size:Nat):Int) > 100)) (fun b32=>?_) (fun b32=>?_)
  ·have q32:=of_decide_eq_true b32
   refine Ap (Bl rfl rfl rfl b32) ?_
   refine Ap (Bl rfl rfl rfl b32) ?_
   refine Ap (Bl rfl rfl rfl b32) ?_
   refine Ap (Bl rfl rfl rfl b32) ?_
   refine Ap (Bl rfl rfl rfl b32) ?_
   refine Ap (Bl rfl rfl rfl b32) ?_
   refine Ap (Bl rfl rfl rfl b32) ?_
   refine Ap (Bl rfl rfl rfl b32) ?_
   refine l_v (Bt rfl b32 (v:=(.bool (true))) rfl) ?_
   refine l_k k25 ?_
   refine Co rfl rfl ?_
   refine w_q rfl rfl fun K33 k33=>?_
   refine l_v (Cp (v:=(.bool (true))) rfl) ?_
   refine l_k k33 ?_
   refine Aj (Asf l2) ?_
   refine Aq ?_
   refine hret _ _ _ ?_
   exact ⟨rfl,rfl,_,rfl⟩
  have q32:=of_decide_eq_false b32
  refine Ak (Ar rfl rfl rfl b32) (Ay GRule.f_measures Tryz.underlying25 rfl rfl L0g (by decide) h17_1 r2) fun v34 r34=>?_
  refine Ak (Ar rfl rfl rfl b32) (Ax L0g rfl r34) fun v35 r35=>?_
  refine Aa (Ar rfl rfl rfl b32) (Ah (v:=(iV ((i:Int)))) h17_3) ?_
  refine Ak (Ar rfl rfl rfl b32) (Ch i Tryz.underlying22 L1f rfl r35 (q:=(i:Int)) rfl rfl ha29) fun v36 r36=>?_
  refine Ak (Ar rfl rfl rfl b32) (Ay Meas.f_points Tryz.underlying39 rfl rfl L0j (by decide) rfl r36) fun v37 r37=>?_
  refine Ak (Ar rfl rfl rfl b32) (Ax L0j rfl r37) fun v38 r38=>?_
  have g39:=Val.len r38
  refine Aa (Ar rfl rfl rfl b32) (Ci (el:=227) Tryz.underlying37 rfl r38) ?_
  refine Aa (Ar rfl rfl rfl b32) (Gl rfl rfl) ?_
  refine l_v (Bn rfl b32 (v:=(.bool (decide (((a29.points.length:Nat):Int) > 40)))) rfl) ?_
  refine l_k k25 ?_
  refine As (t:=decide (((a29.points.length:Nat):Int) > 40)) rfl (fun b40=>?_) (fun b40=>?_)
  ·have q40:=of_decide_eq_true b40
   refine w_q rfl rfl fun K41 k41=>?_
   refine l_v (Cp (v:=(.bool (true))) rfl) ?_
   refine l_k k41 ?_
   refine Aj (Asf l2) ?_
   refine Aq ?_
   refine hret _ _ _ ?_
   exact ⟨rfl,rfl,_,rfl⟩
  have q40:=of_decide_eq_false b40
  refine Al ?_
  apply k24
  refine Ag rfl rfl ?_
  refine l_v (Ah (v:=(iV ((i:Int)))) h17_3) ?_
  refine l_v (Br rfl rfl (z:=(((i + 1):Nat):Int)) (Bo (by first | rfl | omega | (push_cast; rfl)) (by omega) (by omega))) ?_
  refine l_v (Cp (v:=(iV ((((i + 1):Nat):Int)))) rfl) ?_
  apply Ac
  refine ⟨_,?_,((i + 1)),rfl,rfl,rfl,rfl,h17_1,rfl,(by omega),trivial⟩
  omega
 have q23:=of_decide_eq_false b23
 refine Bx ?_
 apply k15
 refine Asb rfl rfl fun K42 K43 k42 k43=>?_
 refine l_v (Cp (v:=(iV (0))) rfl) ?_
 refine l_k k43 ?_
 refine Ao ?_
 refine Cc (fun mm ee dd ρ' σ'=>∃ (i:Nat),(r.grades.length - i) = mm∧[] = dd∧ρ2 = ρ'∧σ = σ'∧ee 1 = (.pointer (some ⟨k2,0,none⟩))∧ee 4 = (iV ((i:Int)))∧(i ≤ r.grades.length)∧True) (m:=_) ⟨0,rfl,rfl,rfl,rfl,h17_1,rfl,(Nat.zero_le _),trivial⟩ ?_
 rintro m44 e44 _ _ _ ⟨i,rfl,rfl,rfl,rfl,h44_1,h44_4,p44_0,_⟩
 refine Asb rfl rfl fun K45 K46 k45 k46=>?_
 refine l_v (Ah (v:=(iV ((i:Int)))) h44_4) ?_
 refine Arw (Ay GRule.f_grades Tryz.underlying25 rfl rfl L0s (by decide) h44_1 r2) fun v47 r47=>?_
 refine Arw (Ax L0s rfl r47) fun v48 r48=>?_
 have g49:=Val.len r48
 refine l_v (Ci (el:=100) Tryz.underlying23 rfl r48) ?_
 refine l_v (Da rfl rfl) ?_
 refine l_k k46 ?_
 refine As (t:=decide ((i:Int) < ((r.grades.length:Nat):Int))) rfl (fun b50=>?_) (fun b50=>?_)
 ·have q50:=of_decide_eq_true b50
  refine Al ?_
  apply k45
  refine Ai fun K51 k51=>?_
  refine Ao ?_
  refine w_q rfl rfl fun K52 k52=>?_
  refine Arw (Ay GRule.f_grades Tryz.underlying25 rfl rfl L0s (by decide) h44_1 r2) fun v53 r53=>?_
  refine Arw (Ax L0s rfl r53) fun v54 r54=>?_
  refine l_v (Ah (v:=(iV ((i:Int)))) h44_4) ?_
  obtain ⟨a56,ha56⟩:=Ed (xs:=r.grades) (i:=i) (by omega)
  refine Arw (Ch i Tryz.underlying23 L1x rfl r54 (q:=(i:Int)) rfl rfl ha56) fun v55 r55=>?_
  refine Arw (Ay GGrade.f_name Tryz.underlying100 rfl rfl ty9 (by decide) rfl r55) fun v57 r57=>?_
  have g58:=At.slen r57
  refine l_v (Pk ty9 rfl r57) ?_
  refine l_v (Afz Tryz.underlying9 (s:=a56.name) rfl) ?_
  refine l_v (Gl rfl rfl) ?_
  refine l_v (Ah (v:=(.bool (decide (((a56.name.size:Nat):Int) > 100)))) rfl) ?_
  refine Cn (decide (((a56.name.size:Nat):Int) > 100)) (fun b59=>?_) (fun b59=>?_)
  ·have q59:=of_decide_eq_true b59
   refine Ap (Bl rfl rfl rfl b59) ?_
   refine Ap (Bl rfl rfl rfl b59) ?_
   refine Ap (Bl rfl rfl rfl b59) ?_
   refine Ap (Bl rfl rfl rfl b59) ?_
   refine Ap (Bl rfl rfl rfl b59) ?_
   refine Ap (Bl rfl rfl rfl b59) ?_
   refine Ap (Bl rfl rfl rfl b59) ?_
   refine Ap (Bl rfl rfl rfl b59) ?_
   refine l_v (Bt rfl b59 (v:=(.bool (true))) rfl) ?_
   refine l_k k52 ?_
   refine Co rfl rfl ?_
   refine w_q rfl rfl fun K60 k60=>?_
   refine l_v (Cp (v:=(.bool (true))) rfl) ?_
   refine l_k k60 ?_
   refine Aj (Asf l2) ?_
   refine Aq ?_
   refine hret _ _ _ ?_
   exact ⟨rfl,rfl,_,rfl⟩
  have q59:=of_decide_eq_false b59
  refine Ak (Ar rfl rfl rfl b59) (Ay GRule.f_grades Tryz.underlying25 rfl rfl L0s (by decide) h44_1 r2) fun v61 r61=>?_
  refine Ak (Ar rfl rfl rfl b59) (Ax L0s rfl r61) fun v62 r62=>?_
  refine Aa (Ar rfl rfl rfl b59) (Ah (v:=(iV ((i:Int)))) h44_4) ?_
  refine Ak (Ar rfl rfl rfl b59) (Ch i Tryz.underlying23 L1x rfl r62 (q:=(i:Int)) rfl rfl ha56) fun v63 r63=>?_
  refine Ak (Ar rfl rfl rfl b59) (Ay GGrade.f_limits Tryz.underlying100 rfl rfl Uo (by decide) rfl r63) fun v64 r64=>?_
  refine Ak (Ar rfl rfl rfl b59) (Ax Uo rfl r64) fun v65 r65=>?_
  have g66:=Val.len r65
  refine Aa (Ar rfl rfl rfl b59) (Ci (el:=41) Tryz.underlying26 rfl r65) ?_
  refine Aa (Ar rfl rfl rfl b59) (Gl rfl rfl) ?_
  refine l_v (Bn rfl b59 (v:=(.bool (decide (((a56.limits.length:Nat):Int) > 40)))) rfl) ?_
  refine l_k k52 ?_
  refine As (t:=decide (((a56.limits.length:Nat):Int) > 40)) rfl (fun b67=>?_) (fun b67=>?_)
  ·have q67:=of_decide_eq_true b67
   refine w_q rfl rfl fun K68 k68=>?_
   refine l_v (Cp (v:=(.bool (true))) rfl) ?_
   refine l_k k68 ?_
   refine Aj (Asf l2) ?_
   refine Aq ?_
   refine hret _ _ _ ?_
   exact ⟨rfl,rfl,_,rfl⟩
  have q67:=of_decide_eq_false b67
  refine Al ?_
  apply k51
  refine Ag rfl rfl ?_
  refine l_v (Ah (v:=(iV ((i:Int)))) h44_4) ?_
  refine l_v (Br rfl rfl (z:=(((i + 1):Nat):Int)) (Bo (by first | rfl | omega | (push_cast; rfl)) (by omega) (by omega))) ?_
  refine l_v (Cp (v:=(iV ((((i + 1):Nat):Int)))) rfl) ?_
  apply Ac
  refine ⟨_,?_,((i + 1)),rfl,rfl,rfl,rfl,h44_1,rfl,(by omega),trivial⟩
  omega
 have q50:=of_decide_eq_false b50
 refine Bx ?_
 apply k42
 refine w_q rfl rfl fun K69 k69=>?_
 refine l_v (Cp (v:=(.bool (false))) rfl) ?_
 refine l_k k69 ?_
 refine Aj (Asf l2) ?_
 refine Aq ?_
 refine hret _ _ _ ?_
 exact ⟨rfl,rfl,_,rfl⟩
set_option maxRecDepth 100000 in
theorem L3i {mn:Bool} {X:Frame→List Frame→Ro→Own→Cy→Prop} {ρ:Ro} {σ:Own} {r:GRule} {vr:Value} {i:Nat} (rr:Val ρ vr r) (hi:i < r.measures.length) (hi6:i < 1000):CallsH (CX mn X) 79 #[vr,(iV ((i:Int)))] ρ σ (fun w ρ' σ'=>ρ' = ρ∧σ' = σ∧w = (iV (L0p r i))):=by
 refine Bh (n:=79) (args:=[vr,(iV ((i:Int)))]) [4] Tryz.func79 rfl rfl rfl rfl fun Q hret hnor=>?_
 refine w_q rfl rfl fun K1 k1=>?_
 refine Arv (Eb (v:=vr) rfl fun k2=>?_)
 refine Bb (a:=r) rr fun ρ2 l2 r2=>?_
 refine l_v (Cp (v:=(iV (0))) rfl) ?_
 refine Arx rfl rfl k1 fun K3 k3=>?_
 refine Arw (Ay GRule.f_measures Tryz.underlying25 rfl rfl L0g (by decide) rfl r2) fun v4 r4=>?_
 refine Arw (Ax L0g rfl r4) fun v5 r5=>?_
 refine l_v (Ah (v:=(iV ((i:Int)))) rfl) ?_
 obtain ⟨a7,ha7⟩:=Ed (xs:=r.measures) (i:=i) (by omega)
 refine Arw (Ch i Tryz.underlying22 L1f rfl r5 (q:=(i:Int)) rfl rfl ha7) fun v6 r6=>?_
 refine Arw (Ax L1f rfl r6) fun v8 r8=>?_
 refine Arv (Ct L5m fun k9=>?_)
 refine Cx rfl (Dv (v:=v8) (a:=a7) (c:=L5l) L1f rfl rfl r8 rfl ?_)
 refine Bb (a:=a7) r8 fun ρ10 l10 r10=>?_
 replace r2:=At.mono l10 r2
 refine Ary rfl rfl k3 fun K11 K12 k11 k12=>?_
 refine Arw (Ay Meas.f_name Tryz.underlying39 rfl rfl ty9 (by decide) rfl r10) fun v13 r13=>?_
 have g14:=At.slen r13
 refine l_v (Pk ty9 rfl r13) ?_
 refine Arv (Bm (L4g) Tryz.func51 rfl rfl ⟨rfl,trivial⟩ ?_)
 refine l_v (Iy rfl) ?_
 refine l_k k12 ?_
 refine As (t:=!(Hg a7.name)) rfl (fun b15=>?_) (fun b15=>?_)
 ·have b16:=not_eq_t b15
  refine w_q rfl rfl fun K17 k17=>?_
  refine l_v (Cp (v:=(iV (4))) rfl) ?_
  refine l_k k17 ?_
  refine Aj (Asf (Asi l2 l10)) ?_
  refine Aq ?_
  refine hret _ _ _ ⟨rfl,rfl,Eq.trans (b:=(iV (4))) rfl ?_⟩
  simp [L0p,ha7,b15,b16]
 have b18:=not_eq_f b15
 refine Al ?_
 apply k11
 refine Asb rfl rfl fun K19 K20 k19 k20=>?_
 refine l_v (Cp (v:=(iV (0))) rfl) ?_
 refine l_k k20 ?_
 refine Ao ?_
 refine Cc (fun mm ee dd ρ' σ'=>∃ (k:Nat),(i - k) = mm∧[] = dd∧ρ10 = ρ'∧σ = σ'∧ee 1 = (iV ((i:Int)))∧ee 2 = (.pointer (some ⟨k2,0,none⟩))∧ee 5 = (.pointer (some ⟨k9,0,none⟩))∧ee 6 = (iV ((k:Int)))∧(k ≤ i)∧(∀ j,j < k→L0x r a7.name j = false)∧True) (m:=_) ⟨0,rfl,rfl,rfl,rfl,rfl,rfl,rfl,rfl,(Nat.zero_le _),(fun j h=>absurd h (Nat.not_lt_zero _)),trivial⟩ ?_
 rintro m21 e21 _ _ _ ⟨k,rfl,rfl,rfl,rfl,h21_1,h21_2,h21_5,h21_6,p21_0,p21_1,_⟩
 refine Asb rfl rfl fun K22 K23 k22 k23=>?_
 refine l_v (Ah (v:=(iV ((k:Int)))) h21_6) ?_
 refine l_v (Ah (v:=(iV ((i:Int)))) h21_1) ?_
 refine l_v (Da rfl rfl) ?_
 refine l_k k23 ?_
 refine As (t:=decide ((k:Int) < (i:Int))) rfl (fun b24=>?_) (fun b24=>?_)
 ·have q24:=of_decide_eq_true b24
  refine Al ?_
  apply k22
  refine Ai fun K25 k25=>?_
  refine Ao ?_
  refine Ai fun K26 k26=>?_
  refine Dc [0,1,2,3,4,5,6,7,8] (by kernel_rfl) rfl rfl ?_
  refine Cd (i:=0) Aos rfl (by kernel_rfl) rfl Ash rfl (Ay GRule.f_measures Tryz.underlying25 rfl rfl L0g (by decide) h21_2 r2) fun v27 r27=>?_
  refine Cd (i:=1) Aot rfl (by kernel_rfl) rfl Ash rfl (Ax L0g rfl r27) fun v28 r28=>?_
  refine Bd (i:=2) Aou rfl (by kernel_rfl) rfl Ash rfl (Ah (v:=(iV ((k:Int)))) h21_6) ?_
  obtain ⟨a30,ha30⟩:=Ed (xs:=r.measures) (i:=k) (by omega)
  refine Cd (i:=3) Aov rfl (by kernel_rfl) rfl Ash rfl (Ch k Tryz.underlying22 L1f rfl r28 (q:=(k:Int)) rfl rfl ha30) fun v29 r29=>?_
  refine Cd (i:=4) Aow rfl (by kernel_rfl) rfl Ash rfl (Ay Meas.f_name Tryz.underlying39 rfl rfl ty9 (by decide) rfl r29) fun v31 r31=>?_
  have g32:=At.slen r31
  refine Bd (i:=5) Aox rfl (by kernel_rfl) rfl Ash rfl (Pk ty9 rfl r31) ?_
  refine Hk (i:=6) Aoy rfl (by kernel_rfl) rfl Ash rfl (Ay Meas.f_name Tryz.underlying39 rfl rfl ty9 (by decide) h21_5 r10) fun v33 r33=>?_
  have g34:=At.slen r33
  refine Bg (i:=7) Aoz rfl (by kernel_rfl) rfl Ash rfl (Pk ty9 rfl r33) ?_
  refine Bg (i:=8) Apa rfl (by kernel_rfl) rfl Ash rfl (L5y (p:=a30.name) (q:=a7.name) rfl rfl) ?_
  refine Ec rfl ?_
  apply k26
  refine As (t:=(a30.name).toList == (a7.name).toList) rfl (fun b35=>?_) (fun b35=>?_)
  ·have q35:=Jr b35
   refine w_q rfl rfl fun K36 k36=>?_
   refine l_v (Cp (v:=(iV (5))) rfl) ?_
   refine l_k k36 ?_
   refine Aj (Asf (Asi l2 l10)) ?_
   refine Aq ?_
   refine hret _ _ _ ⟨rfl,rfl,Eq.trans (b:=(iV (5))) rfl ?_⟩
   have h5:=Fh (n:=i) p21_1 (by omega) (show L0x r a7.name k = true by simp [L0x,ha30,b15,b18,b24,b35,q24,q35])
   simp [L0p,ha7,h5,b15,b18,b24,b35]
  have q35:=Jq b35
  refine Al ?_
  apply k25
  refine Ag rfl rfl ?_
  refine l_v (Ah (v:=(iV ((k:Int)))) h21_6) ?_
  refine l_v (Br rfl rfl (z:=(((k + 1):Nat):Int)) (Bo (by first | rfl | omega | (push_cast; rfl)) (by omega) (by omega))) ?_
  refine l_v (Cp (v:=(iV ((((k + 1):Nat):Int)))) rfl) ?_
  apply Ac
  refine ⟨_,?_,((k + 1)),rfl,rfl,rfl,rfl,h21_1,h21_2,h21_5,rfl,(by omega),(Eg p21_1 (by simp [L0x,ha30,b15,b18,b24,b35,q24,q35])),trivial⟩
  omega
 have q24:=of_decide_eq_false b24
 refine Bx ?_
 apply k19
 refine Asb rfl rfl fun K37 K38 k37 k38=>?_
 refine Arw (Ay Meas.f_points Tryz.underlying39 rfl rfl L0j (by decide) h21_5 r10) fun v39 r39=>?_
 refine Arw (Ax L0j rfl r39) fun v40 r40=>?_
 have g41:=Val.len r40
 refine l_v (Ci (el:=227) Tryz.underlying37 rfl r40) ?_
 refine Arv (Bm (L4f) Tryz.func52 rfl rfl ⟨rfl,rfl,rfl,trivial⟩ ?_)
 refine l_v (Iy rfl) ?_
 refine l_k k38 ?_
 refine As (t:=!(inR (((a7.points.length:Nat):Int)) 1 6)) rfl (fun b42=>?_) (fun b42=>?_)
 ·have b43:=not_eq_t b42
  have q43:=Tr.1 b43
  refine w_q rfl rfl fun K44 k44=>?_
  refine l_v (Cp (v:=(iV (2))) rfl) ?_
  refine l_k k44 ?_
  refine Aj (Asf (Asi l2 l10)) ?_
  refine Aq ?_
  refine hret _ _ _ ⟨rfl,rfl,Eq.trans (b:=(iV (2))) rfl ?_⟩
  have h5:=Ep (n:=i) (p:=L0x r a7.name) fun j hj=>p21_1 j (by omega)
  have hp:L0h a7.points = 2:=by simp only [L0h,b15,b18,b24,b42,b43,Bool.false_eq_true,if_false]
  simp [L0p,ha7,h5,b15,b18,b24,b42,b43,hp]
 have b45:=not_eq_f b42
 have q45:=Fz.1 b45
 refine Al ?_
 apply k37
 refine Asb rfl rfl fun K46 K47 k46 k47=>?_
 refine l_v (Cp (v:=(iV (0))) rfl) ?_
 refine l_k k47 ?_
 refine Ao ?_
 refine Cc (fun mm ee dd ρ' σ'=>∃ (q:Nat),(a7.points.length - q) = mm∧[] = dd∧ρ10 = ρ'∧σ = σ'∧ee 5 = (.pointer (some ⟨k9,0,none⟩))∧ee 7 = (iV ((q:Int)))∧(q ≤ a7.points.length)∧(∀ j,j < q→L1s a7.points j = 0)∧True) (m:=_) ⟨0,rfl,rfl,rfl,rfl,h21_5,rfl,(Nat.zero_le _),(fun j h=>absurd h (Nat.not_lt_zero _)),trivial⟩ ?_
 rintro m48 e48 _ _ _ ⟨q,rfl,rfl,rfl,rfl,h48_5,h48_7,p48_0,p48_1,_⟩
 refine Asb rfl rfl fun K49 K50 k49 k50=>?_
 refine l_v (Ah (v:=(iV ((q:Int)))) h48_7) ?_
 refine Arw (Ay Meas.f_points Tryz.underlying39 rfl rfl L0j (by decide) h48_5 r10) fun v51 r51=>?_
 refine Arw (Ax L0j rfl r51) fun v52 r52=>?_
 have g53:=Val.len r52
 refine l_v (Ci (el:=227) Tryz.underlying37 rfl r52) ?_
 refine l_v (Da rfl rfl) ?_
 refine l_k k50 ?_
 refine As (t:=decide ((q:Int) < ((a7.points.length:Nat):Int))) rfl (fun b54=>?_) (fun b54=>?_)
 ·have q54:=of_decide_eq_true b54
  refine Al ?_
  apply k49
  refine Ai fun K55 k55=>?_
  refine Ao ?_
  refine Asb rfl rfl fun K56 K57 k56 k57=>?_
  refine Arw (Ay Meas.f_points Tryz.underlying39 rfl rfl L0j (by decide) h48_5 r10) fun v58 r58=>?_
  refine Arw (Ax L0j rfl r58) fun v59 r59=>?_
  refine l_v (Ah (v:=(iV ((q:Int)))) h48_7) ?_
  obtain ⟨a61,ha61⟩:=Ed (xs:=a7.points) (i:=q) (by omega)
  refine Arw (Ch q Tryz.underlying37 L0t rfl r59 (q:=(q:Int)) rfl rfl ha61) fun v60 r60=>?_
  refine Arw (Ay GPoint.f_read Tryz.underlying227 rfl rfl ty3 (by decide) rfl r60) fun v62 r62=>?_
  have ⟨g63a,g63b⟩:=At.rng r62
  refine l_v (Bc ty3 rfl r62) ?_
  refine Arv (Bm (L4f) Tryz.func52 rfl rfl ⟨rfl,rfl,rfl,trivial⟩ ?_)
  refine l_v (Iy rfl) ?_
  refine l_v (Ah (v:=(.bool (!(inR a61.read 0 1000)))) rfl) ?_
  refine Cn (!(inR a61.read 0 1000)) (fun b64=>?_) (fun b64=>?_)
  ·have b65:=not_eq_t b64
   have q65:=Tr.1 b65
   refine Ap (Bl rfl rfl rfl b64) ?_
   refine Ap (Bl rfl rfl rfl b64) ?_
   refine Ap (Bl rfl rfl rfl b64) ?_
   refine Ap (Bl rfl rfl rfl b64) ?_
   refine Ap (Bl rfl rfl rfl b64) ?_
   refine Ap (Bl rfl rfl rfl b64) ?_
   refine Ap (Bl rfl rfl rfl b64) ?_
   refine Ap (Bl rfl rfl rfl b64) ?_
   refine l_v (Bt rfl b64 (v:=(.bool (true))) rfl) ?_
   refine l_k k57 ?_
   refine Co rfl rfl ?_
   refine w_q rfl rfl fun K66 k66=>?_
   refine l_v (Cp (v:=(iV (1))) rfl) ?_
   refine l_k k66 ?_
   refine Aj (Asf (Asi l2 l10)) ?_
   refine Aq ?_
   refine hret _ _ _ ⟨rfl,rfl,Eq.trans (b:=(iV (1))) rfl ?_⟩
   have h5:=Ep (n:=i) (p:=L0x r a7.name) fun j hj=>p21_1 j (by omega)
   have hp:L0h a7.points = 1:=by
    have hf:L1s a7.points q = 1:=by simp [L1s,ha61,b15,b18,b24,b42,b45,b54,b64,b65,q24,q45,q54,q65]
    simp only [L0h,b15,b18,b24,b42,b45,b54,b64,b65,if_true]; exact Db p48_1 (by omega) hf (by omega)
   simp [L0p,ha7,h5,b15,b18,b24,b42,b45,b54,b64,b65,hp]
  have b67:=not_eq_f b64
  have q67:=Fz.1 b67
  refine Ak (Ar rfl rfl rfl b64) (Ay Meas.f_points Tryz.underlying39 rfl rfl L0j (by decide) h48_5 r10) fun v68 r68=>?_
  refine Ak (Ar rfl rfl rfl b64) (Ax L0j rfl r68) fun v69 r69=>?_
  refine Aa (Ar rfl rfl rfl b64) (Ah (v:=(iV ((q:Int)))) h48_7) ?_
  refine Ak (Ar rfl rfl rfl b64) (Ch q Tryz.underlying37 L0t rfl r69 (q:=(q:Int)) rfl rfl ha61) fun v70 r70=>?_
  refine Ak (Ar rfl rfl rfl b64) (Ay GPoint.f_value Tryz.underlying227 rfl rfl ty3 (by decide) rfl r70) fun v71 r71=>?_
  have ⟨g72a,g72b⟩:=At.rng r71
  refine Aa (Ar rfl rfl rfl b64) (Bc ty3 rfl r71) ?_
  refine Ae (Ar rfl rfl rfl b64) (Bm (L4f) Tryz.func52 rfl rfl ⟨rfl,rfl,rfl,trivial⟩ ?_)
  refine Aa (Ar rfl rfl rfl b64) (Iy rfl) ?_
  refine l_v (Bn rfl b64 (v:=(.bool (!(inR a61.value ((-10000)) 10000)))) rfl) ?_
  refine l_k k57 ?_
  refine As (t:=!(inR a61.value ((-10000)) 10000)) rfl (fun b73=>?_) (fun b73=>?_)
  ·have b74:=not_eq_t b73
   have q74:=Tr.1 b74
   refine w_q rfl rfl fun K75 k75=>?_
   refine l_v (Cp (v:=(iV (1))) rfl) ?_
   refine l_k k75 ?_
   refine Aj (Asf (Asi l2 l10)) ?_
   refine Aq ?_
   refine hret _ _ _ ⟨rfl,rfl,Eq.trans (b:=(iV (1))) rfl ?_⟩
   have h5:=Ep (n:=i) (p:=L0x r a7.name) fun j hj=>p21_1 j (by omega)
   have hp:L0h a7.points = 1:=by
    have hf:L1s a7.points q = 1:=by simp [L1s,ha61,b15,b18,b24,b42,b45,b54,b64,b67,b73,b74,q24,q45,q54,q67,q74]
    simp only [L0h,b15,b18,b24,b42,b45,b54,b64,b67,b73,b74,if_true]; exact Db p48_1 (by omega) hf (by omega)
   simp [L0p,ha7,h5,b15,b18,b24,b42,b45,b54,b64,b67,b73,b74,hp]
  have b76:=not_eq_f b73
  have q76:=Fz.1 b76
  refine Al ?_
  apply k56
  refine Ai fun K77 k77=>?_
  refine Dc [0,1,2,3,4,5,6,7,8,9,10,11,12,13,14,15,16,17] (by kernel_rfl) rfl rfl ?_
  refine Bg (i:=0) [o1,o0,o0,o0,o0,o0,o0,o0,o0,o0,o0,o0,o0,o0,o0,o0,o0,o0] rfl (by kernel_rfl) rfl Ash rfl (Ah (v:=(iV ((q:Int)))) h48_7) ?_
  refine Bg (i:=1) [o1,o1,o0,o0,o0,o0,o0,o0,o0,o0,o0,o0,o0,o0,o0,o0,o0,o0] rfl (by kernel_rfl) rfl Ash rfl (Gl rfl rfl) ?_
  refine Bg (i:=2) [o1,o1,o1,o0,o0,o0,o0,o0,o0,o0,o0,o0,o0,o0,o0,o0,o0,o0] rfl (by kernel_rfl) rfl Ash rfl (Ah (v:=(.bool (decide ((q:Int) > 0)))) rfl) ?_
  refine Akk (decide ((q:Int) > 0)) (fun b78=>?_) (fun b78=>?_)
  ·have q78:=of_decide_eq_true b78
   refine Cd (i:=3) [o1,o1,o1,o1,o0,o0,o0,o0,o0,o0,o0,o0,o0,o0,o0,o0,o0,o0] rfl (by kernel_rfl) rfl Ash (Ar rfl rfl rfl b78) (Ay Meas.f_points Tryz.underlying39 rfl rfl L0j (by decide) h48_5 r10) fun v79 r79=>?_
   refine Cd (i:=4) [o1,o1,o1,o1,o1,o0,o0,o0,o0,o0,o0,o0,o0,o0,o0,o0,o0,o0] rfl (by kernel_rfl) rfl Ash (Ar rfl rfl rfl b78) (Ax L0j rfl r79) fun v80 r80=>?_
   refine Bd (i:=5) [o1,o1,o1,o1,o1,o1,o0,o0,o0,o0,o0,o0,o0,o0,o0,o0,o0,o0] rfl (by kernel_rfl) rfl Ash (Ar rfl rfl rfl b78) (Ah (v:=(iV ((q:Int)))) h48_7) ?_
   refine Cd (i:=6) [o1,o1,o1,o1,o1,o1,o1,o0,o0,o0,o0,o0,o0,o0,o0,o0,o0,o0] rfl (by kernel_rfl) rfl Ash (Ar rfl rfl rfl b78) (Ch q Tryz.underlying37 L0t rfl r80 (q:=(q:Int)) rfl rfl ha61) fun v81 r81=>?_
   refine Cd (i:=7) [o1,o1,o1,o1,o1,o1,o1,o1,o0,o0,o0,o0,o0,o0,o0,o0,o0,o0] rfl (by kernel_rfl) rfl Ash (Ar rfl rfl rfl b78) (Ay GPoint.f_read Tryz.underlying227 rfl rfl ty3 (by decide) rfl r81) fun v82 r82=>?_
   have ⟨g83a,g83b⟩:=At.rng r82
   refine Bd (i:=8) [o1,o1,o1,o1,o1,o1,o1,o1,o1,o0,o0,o0,o0,o0,o0,o0,o0,o0] rfl (by kernel_rfl) rfl Ash (Ar rfl rfl rfl b78) (Bc ty3 rfl r82) ?_
   refine Cd (i:=9) [o1,o1,o1,o1,o1,o1,o1,o1,o1,o1,o0,o0,o0,o0,o0,o0,o0,o0] rfl (by kernel_rfl) rfl Ash (Ar rfl rfl rfl b78) (Ay Meas.f_points Tryz.underlying39 rfl rfl L0j (by decide) h48_5 r10) fun v84 r84=>?_
   refine Cd (i:=10) [o1,o1,o1,o1,o1,o1,o1,o1,o1,o1,o1,o0,o0,o0,o0,o0,o0,o0] rfl (by kernel_rfl) rfl Ash (Ar rfl rfl rfl b78) (Ax L0j rfl r84) fun v85 r85=>?_
   refine Bg (i:=11) [o1,o1,o1,o1,o1,o1,o1,o1,o1,o1,o1,o1,o0,o0,o0,o0,o0,o0] rfl (by kernel_rfl) rfl Ash (Ar rfl rfl rfl b78) (Ah (v:=(iV ((q:Int)))) h48_7) ?_
   refine Bg (i:=12) [o1,o1,o1,o1,o1,o1,o1,o1,o1,o1,o1,o1,o1,o0,o0,o0,o0,o0] rfl (by kernel_rfl) rfl Ash (Ar rfl rfl rfl b78) (Ou rfl rfl (z:=((q:Int) - 1)) (Bo (by first | rfl | omega | (push_cast; rfl)) (by omega) (by omega))) ?_
   obtain ⟨a87,ha87⟩:=Ed (xs:=a7.points) (i:=(((q:Int) - 1)).toNat) (by omega)
   refine Hk (i:=13) [o1,o1,o1,o1,o1,o1,o1,o1,o1,o1,o1,o1,o1,o1,o0,o0,o0,o0] rfl (by kernel_rfl) rfl Ash (Ar rfl rfl rfl b78) (Ch ((((q:Int) - 1)).toNat) Tryz.underlying37 L0t rfl r85 (q:=((q:Int) - 1)) rfl (by omega) ha87) fun v86 r86=>?_
   refine Hk (i:=14) [o1,o1,o1,o1,o1,o1,o1,o1,o1,o1,o1,o1,o1,o1,o1,o0,o0,o0] rfl (by kernel_rfl) rfl Ash (Ar rfl rfl rfl b78) (Ay GPoint.f_read Tryz.underlying227 rfl rfl ty3 (by decide) rfl r86) fun v88 r88=>?_
   have ⟨g89a,g89b⟩:=At.rng r88
   refine Bg (i:=15) [o1,o1,o1,o1,o1,o1,o1,o1,o1,o1,o1,o1,o1,o1,o1,o1,o0,o0] rfl (by kernel_rfl) rfl Ash (Ar rfl rfl rfl b78) (Bc ty3 rfl r88) ?_
   refine Bg (i:=16) [o1,o1,o1,o1,o1,o1,o1,o1,o1,o1,o1,o1,o1,o1,o1,o1,o1,o0] rfl (by kernel_rfl) rfl Ash (Ar rfl rfl rfl b78) (Uz rfl rfl) ?_
   refine Bg (i:=17) [o1,o1,o1,o1,o1,o1,o1,o1,o1,o1,o1,o1,o1,o1,o1,o1,o1,o1] rfl (by kernel_rfl) rfl Ash rfl (Bt rfl b78 (v:=(.bool (decide (a61.read ≤ a87.read)))) rfl) ?_
   refine Ec rfl ?_
   apply k77
   refine As (t:=decide (a61.read ≤ a87.read)) rfl (fun b90=>?_) (fun b90=>?_)
   ·have q90:=of_decide_eq_true b90
    refine w_q rfl rfl fun K91 k91=>?_
    refine l_v (Cp (v:=(iV (7))) rfl) ?_
    refine l_k k91 ?_
    refine Aj (Asf (Asi l2 l10)) ?_
    refine Aq ?_
    refine hret _ _ _ ⟨rfl,rfl,Eq.trans (b:=(iV (7))) rfl ?_⟩
    have h5:=Ep (n:=i) (p:=L0x r a7.name) fun j hj=>p21_1 j (by omega)
    have hp:L0h a7.points = 7:=by
     have hf:L1s a7.points q = 7:=by
      have hpr:(if 0 < q then a7.points[q - 1]? else none) = some a87:=by rw [if_pos (by omega),← ha87]; congr 1; omega
      simp only [L1s,ha61,hpr,b15,b18,b24,b42,b45,b54,b64,b67,b73,b76,b78,b90,Bool.true_and,Bool.false_and,Bool.and_true,Bool.and_false,Bool.true_or,Bool.false_or,Bool.or_true,Bool.or_false,Bool.not_true,Bool.not_false,if_true]
      exact if_pos (by omega)
     simp only [L0h,b15,b18,b24,b42,b45,b54,b64,b67,b73,b76,b78,b90,if_true]; exact Db p48_1 (by omega) hf (by omega)
    simp [L0p,ha7,h5,b15,b18,b24,b42,b45,b54,b64,b67,b73,b76,b78,b90,hp]
   have q90:=of_decide_eq_false b90
   refine Al ?_
   apply k55
   refine Ag rfl rfl ?_
   refine l_v (Ah (v:=(iV ((q:Int)))) h48_7) ?_
   refine l_v (Br rfl rfl (z:=(((q + 1):Nat):Int)) (Bo (by first | rfl | omega | (push_cast; rfl)) (by omega) (by omega))) ?_
   refine l_v (Cp (v:=(iV ((((q + 1):Nat):Int)))) rfl) ?_
   apply Ac
   refine ⟨_,?_,((q + 1)),rfl,rfl,rfl,rfl,h48_5,rfl,(by omega),(Eg p48_1 (by
 have hpr:(if 0 < q then a7.points[q - 1]? else none) = some a87:=by rw [if_pos (by omega),← ha87]; congr 1; omega
 simp only [L1s,ha61,hpr,b15,b18,b24,b42,b45,b54,b64,b67,b73,b76,b78,b90,Bool.true_and,Bool.false_and,Bool.and_true,Bool.and_false,Bool.true_or,Bool.false_or,Bool.or_true,Bool.or_false,Bool.not_true,Bool.not_false,if_true]
 exact if_neg (by omega))),trivial⟩
   omega
  have q78:=of_decide_eq_false b78
  refine Sw (i:=3) [o1,o1,o1,o1,o0,o0,o0,o0,o0,o0,o0,o0,o0,o0,o0,o0,o0,o0] rfl (by kernel_rfl) rfl Ash (Bl rfl rfl rfl b78) ?_
  refine Sw (i:=4) [o1,o1,o1,o1,o1,o0,o0,o0,o0,o0,o0,o0,o0,o0,o0,o0,o0,o0] rfl (by kernel_rfl) rfl Ash (Bl rfl rfl rfl b78) ?_
  refine Sw (i:=5) [o1,o1,o1,o1,o1,o1,o0,o0,o0,o0,o0,o0,o0,o0,o0,o0,o0,o0] rfl (by kernel_rfl) rfl Ash (Bl rfl rfl rfl b78) ?_
  refine Sw (i:=6) [o1,o1,o1,o1,o1,o1,o1,o0,o0,o0,o0,o0,o0,o0,o0,o0,o0,o0] rfl (by kernel_rfl) rfl Ash (Bl rfl rfl rfl b78) ?_
  refine Sw (i:=7) [o1,o1,o1,o1,o1,o1,o1,o1,o0,o0,o0,o0,o0,o0,o0,o0,o0,o0] rfl (by kernel_rfl) rfl Ash (Bl rfl rfl rfl b78) ?_
  refine Sw (i:=8) [o1,o1,o1,o1,o1,o1,o1,o1,o1,o0,o0,o0,o0,o0,o0,o0,o0,o0] rfl (by kernel_rfl) rfl Ash (Bl rfl rfl rfl b78) ?_
  refine Sw (i:=9) [o1,o1,o1,o1,o1,o1,o1,o1,o1,o1,o0,o0,o0,o0,o0,o0,o0,o0] rfl (by kernel_rfl) rfl Ash (Bl rfl rfl rfl b78) ?_
  refine Sw (i:=10) [o1,o1,o1,o1,o1,o1,o1,o1,o1,o1,o1,o0,o0,o0,o0,o0,o0,o0] rfl (by kernel_rfl) rfl Ash (Bl rfl rfl rfl b78) ?_
  refine Wv (i:=11) [o1,o1,o1,o1,o1,o1,o1,o1,o1,o1,o1,o1,o0,o0,o0,o0,o0,o0] rfl (by kernel_rfl) rfl Ash (Bl rfl rfl rfl b78) ?_
  refine Wv (i:=12) [o1,o1,o1,o1,o1,o1,o1,o1,o1,o1,o1,o1,o1,o0,o0,o0,o0,o0] rfl (by kernel_rfl) rfl Ash (Bl rfl rfl rfl b78) ?_
  refine Wv (i:=13) [o1,o1,o1,o1,o1,o1,o1,o1,o1,o1,o1,o1,o1,o1,o0,o0,o0,o0] rfl (by kernel_rfl) rfl Ash (Bl rfl rfl rfl b78) ?_
  refine Wv (i:=14) [o1,o1,o1,o1,o1,o1,o1,o1,o1,o1,o1,o1,o1,o1,o1,o0,o0,o0] rfl (by kernel_rfl) rfl Ash (Bl rfl rfl rfl b78) ?_
  refine Wv (i:=15) [o1,o1,o1,o1,o1,o1,o1,o1,o1,o1,o1,o1,o1,o1,o1,o1,o0,o0] rfl (by kernel_rfl) rfl Ash (Bl rfl rfl rfl b78) ?_
  refine Wv (i:=16) [o1,o1,o1,o1,o1,o1,o1,o1,o1,o1,o1,o1,o1,o1,o1,o1,o1,o0] rfl (by kernel_rfl) rfl Ash (Bl rfl rfl rfl b78) ?_
  refine Bg (i:=17) [o1,o1,o1,o1,o1,o1,o1,o1,o1,o1,o1,o1,o1,o1,o1,o1,o1,o1] rfl (by kernel_rfl) rfl Ash rfl (Bn rfl b78 (v:=(.bool (false))) rfl) ?_
  refine Ec rfl ?_
  apply k77
  refine Cg rfl rfl ?_
  refine Al ?_
  apply k55
  refine Ag rfl rfl ?_
  refine l_v (Ah (v:=(iV ((q:Int)))) h48_7) ?_
  refine l_v (Br rfl rfl (z:=(((q + 1):Nat):Int)) (Bo (by first | rfl | omega | (push_cast; rfl)) (by omega) (by omega))) ?_
  refine l_v (Cp (v:=(iV ((((q + 1):Nat):Int)))) rfl) ?_
  apply Ac
  refine ⟨_,?_,((q + 1)),rfl,rfl,rfl,rfl,h48_5,rfl,(by omega),(Eg p48_1 (by
 have hpr:(if 0 < q then a7.points[q - 1]? else none) = none:=if_neg (by omega)
 simp only [L1s,ha61,hpr,b15,b18,b24,b42,b45,b54,b64,b67,b73,b76,b78,Bool.true_and,Bool.false_and,Bool.and_true,Bool.and_false,Bool.true_or,Bool.false_or,Bool.or_true,Bool.or_false,Bool.not_true,Bool.not_false,if_true])),trivial⟩
  omega
 have q54:=of_decide_eq_false b54
 refine Bx ?_
 apply k46
 refine w_q rfl rfl fun K92 k92=>?_
 refine l_v (Cp (v:=(iV (0))) rfl) ?_
 refine l_k k92 ?_
 refine Aj (Asf (Asi l2 l10)) ?_
 refine Aq ?_
 refine hret _ _ _ ⟨rfl,rfl,Eq.trans (b:=(iV (0))) rfl ?_⟩
 have h5:=Ep (n:=i) (p:=L0x r a7.name) fun j hj=>p21_1 j (by omega)
 have hp:L0h a7.points = 0:=by simp only [L0h,b15,b18,b24,b42,b45,b54,if_true]; exact Fb fun j hj=>p48_1 j (by omega)
 simp [L0p,ha7,h5,b15,b18,b24,b42,b45,b54,hp]
set_option maxRecDepth 100000 in
theorem L4h {mn:Bool} {X:Frame→List Frame→Ro→Own→Cy→Prop} {ρ:Ro} {σ:Own} {r:GRule} {vr:Value} {i:Nat} (rr:Val ρ vr r) (hi:i < r.grades.length) (hi6:i < 1000):CallsH (CX mn X) 80 #[vr,(iV ((i:Int)))] ρ σ (fun w ρ' σ'=>ρ' = ρ∧σ' = σ∧w = (iV (L0i r i))):=by
 refine Bh (n:=56) (args:=[vr,(iV ((i:Int)))]) [4] Tryz.func80 rfl rfl rfl rfl fun Q hret hnor=>?_
 refine w_q rfl rfl fun K1 k1=>?_
 refine Arv (Eb (v:=vr) rfl fun k2=>?_)
 refine Bb (a:=r) rr fun ρ2 l2 r2=>?_
 refine l_v (Cp (v:=(iV (0))) rfl) ?_
 refine Arx rfl rfl k1 fun K3 k3=>?_
 refine Arw (Ay GRule.f_grades Tryz.underlying25 rfl rfl L0s (by decide) rfl r2) fun v4 r4=>?_
 refine Arw (Ax L0s rfl r4) fun v5 r5=>?_
 refine l_v (Ah (v:=(iV ((i:Int)))) rfl) ?_
 obtain ⟨a7,ha7⟩:=Ed (xs:=r.grades) (i:=i) (by omega)
 refine Arw (Ch i Tryz.underlying23 L1x rfl r5 (q:=(i:Int)) rfl rfl ha7) fun v6 r6=>?_
 refine Arw (Ax L1x rfl r6) fun v8 r8=>?_
 refine Arv (Ct L7i fun k9=>?_)
 refine Cx rfl (Dv (v:=v8) (a:=a7) (c:=L7g) L1x rfl rfl r8 rfl ?_)
 refine Bb (a:=a7) r8 fun ρ10 l10 r10=>?_
 replace r2:=At.mono l10 r2
 refine Ary rfl rfl k3 fun K11 K12 k11 k12=>?_
 refine Arw (Ay GGrade.f_name Tryz.underlying100 rfl rfl ty9 (by decide) rfl r10) fun v13 r13=>?_
 have g14:=At.slen r13
 refine l_v (Pk ty9 rfl r13) ?_
 refine Arv (Bm (L4g) Tryz.func51 rfl rfl ⟨rfl,trivial⟩ ?_)
 refine l_v (Iy rfl) ?_
 refine l_k k12 ?_
 refine As (t:=!(Hg a7.name)) rfl (fun b15=>?_) (fun b15=>?_)
 ·have b16:=not_eq_t b15
  refine w_q rfl rfl fun K17 k17=>?_
  refine l_v (Cp (v:=(iV (4))) rfl) ?_
  refine l_k k17 ?_
  refine Aj (Asf (Asi l2 l10)) ?_
  refine Aq ?_
  refine hret _ _ _ ⟨rfl,rfl,Eq.trans (b:=(iV (4))) rfl ?_⟩
  simp [L0i,ha7,b15,b16]
 have b18:=not_eq_f b15
 refine Al ?_
 apply k11
 refine Asb rfl rfl fun K19 K20 k19 k20=>?_
 refine l_v (Cp (v:=(iV (0))) rfl) ?_
 refine l_k k20 ?_
 refine Ao ?_
 refine Cc (fun mm ee dd ρ' σ'=>∃ (k:Nat),(i - k) = mm∧[] = dd∧ρ10 = ρ'∧σ = σ'∧ee 1 = (iV ((i:Int)))∧ee 2 = (.pointer (some ⟨k2,0,none⟩))∧ee 5 = (.pointer (some ⟨k9,0,none⟩))∧ee 6 = (iV ((k:Int)))∧(k ≤ i)∧(∀ j,j < k→L0v r a7.name j = false)∧True) (m:=_) ⟨0,rfl,rfl,rfl,rfl,rfl,rfl,rfl,rfl,(Nat.zero_le _),(fun j h=>absurd h (Nat.not_lt_zero _)),trivial⟩ ?_
 rintro m21 e21 _ _ _ ⟨k,rfl,rfl,rfl,rfl,h21_1,h21_2,h21_5,h21_6,p21_0,p21_1,_⟩
 refine Asb rfl rfl fun K22 K23 k22 k23=>?_
 refine l_v (Ah (v:=(iV ((k:Int)))) h21_6) ?_
 refine l_v (Ah (v:=(iV ((i:Int)))) h21_1) ?_
 refine l_v (Da rfl rfl) ?_
 refine l_k k23 ?_
 refine As (t:=decide ((k:Int) < (i:Int))) rfl (fun b24=>?_) (fun b24=>?_)
 ·have q24:=of_decide_eq_true b24
  refine Al ?_
  apply k22
  refine Ai fun K25 k25=>?_
  refine Ao ?_
  refine Ai fun K26 k26=>?_
  refine Dc [0,1,2,3,4,5,6,7,8] (by kernel_rfl) rfl rfl ?_
  refine Cd (i:=0) Aos rfl (by kernel_rfl) rfl Ash rfl (Ay GRule.f_grades Tryz.underlying25 rfl rfl L0s (by decide) h21_2 r2) fun v27 r27=>?_
  refine Cd (i:=1) Aot rfl (by kernel_rfl) rfl Ash rfl (Ax L0s rfl r27) fun v28 r28=>?_
  refine Bd (i:=2) Aou rfl (by kernel_rfl) rfl Ash rfl (Ah (v:=(iV ((k:Int)))) h21_6) ?_
  obtain ⟨a30,ha30⟩:=Ed (xs:=r.grades) (i:=k) (by omega)
  refine Cd (i:=3) Aov rfl (by kernel_rfl) rfl Ash rfl (Ch k Tryz.underlying23 L1x rfl r28 (q:=(k:Int)) rfl rfl ha30) fun v29 r29=>?_
  refine Cd (i:=4) Aow rfl (by kernel_rfl) rfl Ash rfl (Ay GGrade.f_name Tryz.underlying100 rfl rfl ty9 (by decide) rfl r29) fun v31 r31=>?_
  have g32:=At.slen r31
  refine Bd (i:=5) Aox rfl (by kernel_rfl) rfl Ash rfl (Pk ty9 rfl r31) ?_
  refine Hk (i:=6) Aoy rfl (by kernel_rfl) rfl Ash rfl (Ay GGrade.f_name Tryz.underlying100 rfl rfl ty9 (by decide) h21_5 r10) fun v33 r33=>?_
  have g34:=At.slen r33
  refine Bg (i:=7) Aoz rfl (by kernel_rfl) rfl Ash rfl (Pk ty9 rfl r33) ?_
  refine Bg (i:=8) Apa rfl (by kernel_rfl) rfl Ash rfl (L5y (p:=a30.name) (q:=a7.name) rfl rfl) ?_
  refine Ec rfl ?_
  apply k26
  refine As (t:=(a30.name).toList == (a7.name).toList) rfl (fun b35=>?_) (fun b35=>?_)
  ·have q35:=Jr b35
   refine w_q rfl rfl fun K36 k36=>?_
   refine l_v (Cp (v:=(iV (5))) rfl) ?_
   refine l_k k36 ?_
   refine Aj (Asf (Asi l2 l10)) ?_
   refine Aq ?_
   refine hret _ _ _ ⟨rfl,rfl,Eq.trans (b:=(iV (5))) rfl ?_⟩
   have h5:=Fh (n:=i) p21_1 (by omega) (show L0v r a7.name k = true by simp [L0v,ha30,b15,b18,b24,b35,q24,q35])
   simp [L0i,ha7,h5,b15,b18,b24,b35]
  have q35:=Jq b35
  refine Al ?_
  apply k25
  refine Ag rfl rfl ?_
  refine l_v (Ah (v:=(iV ((k:Int)))) h21_6) ?_
  refine l_v (Br rfl rfl (z:=(((k + 1):Nat):Int)) (Bo (by first | rfl | omega | (push_cast; rfl)) (by omega) (by omega))) ?_
  refine l_v (Cp (v:=(iV ((((k + 1):Nat):Int)))) rfl) ?_
  apply Ac
  refine ⟨_,?_,((k + 1)),rfl,rfl,rfl,rfl,h21_1,h21_2,h21_5,rfl,(by omega),(Eg p21_1 (by simp [L0v,ha30,b15,b18,b24,b35,q24,q35])),trivial⟩
  omega
 have q24:=of_decide_eq_false b24
 refine Bx ?_
 apply k19
 refine Asb rfl rfl fun K37 K38 k37 k38=>?_
 refine Arw (Ay GGrade.f_limits Tryz.underlying100 rfl rfl Uo (by decide) h21_5 r10) fun v39 r39=>?_
 refine Arw (Ax Uo rfl r39) fun v40 r40=>?_
 have g41:=Val.len r40
 refine l_v (Ci (el:=41) Tryz.underlying26 rfl r40) ?_
 refine Arw (Ay GRule.f_measures Tryz.underlying25 rfl rfl L0g (by decide) h21_2 r2) fun v42 r42=>?_
 refine Arw (Ax L0g rfl r42) fun v43 r43=>?_
 have g44:=Val.len r43
 refine l_v (Ci (el:=39) Tryz.underlying22 rfl r43) ?_
 refine l_v (Dg rfl rfl) ?_
 refine l_k k38 ?_
 refine As (t:=((a7.limits.length:Nat):Int) != ((r.measures.length:Nat):Int)) rfl (fun b45=>?_) (fun b45=>?_)
 ·have q45:=Ls b45
  refine w_q rfl rfl fun K46 k46=>?_
  refine l_v (Cp (v:=(iV (2))) rfl) ?_
  refine l_k k46 ?_
  refine Aj (Asf (Asi l2 l10)) ?_
  refine Aq ?_
  refine hret _ _ _ ⟨rfl,rfl,Eq.trans (b:=(iV (2))) rfl ?_⟩
  have h5:=Ep (n:=i) (p:=L0v r a7.name) fun j hj=>p21_1 j (by omega)
  have hv:L0r (r.measures.length:Int) a7.limits = 2:=if_neg (by omega)
  simp [L0i,ha7,h5,b15,b18,b24,b45,hv,orF]
 have q45:=Jh b45
 refine Al ?_
 apply k37
 refine Asb rfl rfl fun K47 K48 k47 k48=>?_
 refine l_v (Cp (v:=(iV (0))) rfl) ?_
 refine l_k k48 ?_
 refine Ao ?_
 refine Cc (fun mm ee dd ρ' σ'=>∃ (q:Nat),(a7.limits.length - q) = mm∧[] = dd∧ρ10 = ρ'∧σ = σ'∧ee 5 = (.pointer (some ⟨k9,0,none⟩))∧ee 7 = (iV ((q:Int)))∧(q ≤ a7.limits.length)∧(∀ j,j < q→L3p a7.limits j = 0)∧True) (m:=_) ⟨0,rfl,rfl,rfl,rfl,h21_5,rfl,(Nat.zero_le _),(fun j h=>absurd h (Nat.not_lt_zero _)),trivial⟩ ?_
 rintro m49 e49 _ _ _ ⟨q,rfl,rfl,rfl,rfl,h49_5,h49_7,p49_0,p49_1,_⟩
 refine Asb rfl rfl fun K50 K51 k50 k51=>?_
 refine l_v (Ah (v:=(iV ((q:Int)))) h49_7) ?_
 refine Arw (Ay GGrade.f_limits Tryz.underlying100 rfl rfl Uo (by decide) h49_5 r10) fun v52 r52=>?_
 refine Arw (Ax Uo rfl r52) fun v53 r53=>?_
 have g54:=Val.len r53
 refine l_v (Ci (el:=41) Tryz.underlying26 rfl r53) ?_
 refine l_v (Da rfl rfl) ?_
 refine l_k k51 ?_
 refine As (t:=decide ((q:Int) < ((a7.limits.length:Nat):Int))) rfl (fun b55=>?_) (fun b55=>?_)
 ·have q55:=of_decide_eq_true b55
  refine Al ?_
  apply k50
  refine Ai fun K56 k56=>?_
  refine Ao ?_
  refine w_q rfl rfl fun K57 k57=>?_
  refine Arw (Ay GGrade.f_limits Tryz.underlying100 rfl rfl Uo (by decide) h49_5 r10) fun v58 r58=>?_
  refine Arw (Ax Uo rfl r58) fun v59 r59=>?_
  refine l_v (Ah (v:=(iV ((q:Int)))) h49_7) ?_
  obtain ⟨a61,ha61⟩:=Ed (xs:=a7.limits) (i:=q) (by omega)
  refine Arw (Ch q Tryz.underlying26 Mx rfl r59 (q:=(q:Int)) rfl rfl ha61) fun v60 r60=>?_
  refine Arw (Ax Mx rfl r60) fun v62 r62=>?_
  refine Arv (Bm (L2k r62) Tryz.func33 rfl rfl ⟨rfl,rfl,rfl,trivial⟩ ?_)
  refine l_v (Iy rfl) ?_
  refine l_k k57 ?_
  refine As (t:=!(Ef a61 ((-10000)) 10000)) rfl (fun b63=>?_) (fun b63=>?_)
  ·have b64:=not_eq_t b63
   refine w_q rfl rfl fun K65 k65=>?_
   refine l_v (Cp (v:=(iV (1))) rfl) ?_
   refine l_k k65 ?_
   refine Aj (Asf (Asi l2 l10)) ?_
   refine Aq ?_
   refine hret _ _ _ ⟨rfl,rfl,Eq.trans (b:=(iV (1))) rfl ?_⟩
   have h5:=Ep (n:=i) (p:=L0v r a7.name) fun j hj=>p21_1 j (by omega)
   have hv:L0r (r.measures.length:Int) a7.limits = 1:=(if_pos (by omega)).trans (Db p49_1 (by omega) (by simp [L3p,ha61,b15,b18,b24,b45,b55,b63,b64,q24,q45,q55]) (by omega))
   simp [L0i,ha7,h5,b15,b18,b24,b45,b55,b63,b64,hv,orF]
  have b66:=not_eq_f b63
  refine Al ?_
  apply k56
  refine Ag rfl rfl ?_
  refine l_v (Ah (v:=(iV ((q:Int)))) h49_7) ?_
  refine l_v (Br rfl rfl (z:=(((q + 1):Nat):Int)) (Bo (by first | rfl | omega | (push_cast; rfl)) (by omega) (by omega))) ?_
  refine l_v (Cp (v:=(iV ((((q + 1):Nat):Int)))) rfl) ?_
  apply Ac
  refine ⟨_,?_,((q + 1)),rfl,rfl,rfl,rfl,h49_5,rfl,(by omega),(Eg p49_1 (by simp [L3p,ha61,b15,b18,b24,b45,b55,b63,b66,q24,q45,q55])),trivial⟩
  omega
 have q55:=of_decide_eq_false b55
 refine Bx ?_
 apply k47
 refine Asb rfl rfl fun K67 K68 k67 k68=>?_
 refine Arw (Ay GGrade.f_worth Tryz.underlying100 rfl rfl ty3 (by decide) h49_5 r10) fun v69 r69=>?_
 have ⟨g70a,g70b⟩:=At.rng r69
 refine l_v (Bc ty3 rfl r69) ?_
 refine Arv (Bm (L4f) Tryz.func52 rfl rfl ⟨rfl,rfl,rfl,trivial⟩ ?_)
 refine l_v (Iy rfl) ?_
 refine l_k k68 ?_
 refine As (t:=!(inR a7.worth 0 1000)) rfl (fun b71=>?_) (fun b71=>?_)
 ·have b72:=not_eq_t b71
  have q72:=Tr.1 b72
  refine w_q rfl rfl fun K73 k73=>?_
  refine l_v (Cp (v:=(iV (1))) rfl) ?_
  refine l_k k73 ?_
  refine Aj (Asf (Asi l2 l10)) ?_
  refine Aq ?_
  refine hret _ _ _ ⟨rfl,rfl,Eq.trans (b:=(iV (1))) rfl ?_⟩
  have h5:=Ep (n:=i) (p:=L0v r a7.name) fun j hj=>p21_1 j (by omega)
  have hv:L0r (r.measures.length:Int) a7.limits = 0:=(if_pos (by omega)).trans (Fb fun j hj=>p49_1 j (by omega))
  simp [L0i,ha7,h5,b15,b18,b24,b45,b55,b71,b72,hv,orF]
 have b74:=not_eq_f b71
 have q74:=Fz.1 b74
 refine Al ?_
 apply k67
 refine w_q rfl rfl fun K75 k75=>?_
 refine l_v (Cp (v:=(iV (0))) rfl) ?_
 refine l_k k75 ?_
 refine Aj (Asf (Asi l2 l10)) ?_
 refine Aq ?_
 refine hret _ _ _ ⟨rfl,rfl,Eq.trans (b:=(iV (0))) rfl ?_⟩
 have h5:=Ep (n:=i) (p:=L0v r a7.name) fun j hj=>p21_1 j (by omega)
 have hv:L0r (r.measures.length:Int) a7.limits = 0:=(if_pos (by omega)).trans (Fb fun j hj=>p49_1 j (by omega))
 simp [L0i,ha7,h5,b15,b18,b24,b45,b55,b71,b74,hv,orF]
set_option maxRecDepth 100000 in
theorem L6b {mn:Bool} {X:Frame→List Frame→Ro→Own→Cy→Prop} {ρ:Ro} {σ:Own} {r:GRule} {vr:Value} (rr:Val ρ vr r):CallsH (CX mn X) 32 #[vr] ρ σ (fun w ρ' σ'=>ρ' = ρ∧σ' = σ∧w = (iV (L0q r))):=by
 refine Bh (n:=42) (args:=[vr]) [2] Tryz.func32 rfl rfl rfl rfl fun Q hret hnor=>?_
 refine w_q rfl rfl fun K1 k1=>?_
 refine Arv (Eb (v:=vr) rfl fun k2=>?_)
 refine Bb (a:=r) rr fun ρ2 l2 r2=>?_
 refine l_v (Cp (v:=(iV (0))) rfl) ?_
 refine Ary rfl rfl k1 fun K3 K4 k3 k4=>?_
 refine Arw (Ay GRule.f_measures Tryz.underlying25 rfl rfl L0g (by decide) rfl r2) fun v5 r5=>?_
 refine Arw (Ax L0g rfl r5) fun v6 r6=>?_
 have g7:=Val.len r6
 refine l_v (Ci (el:=39) Tryz.underlying22 rfl r6) ?_
 refine Arv (Bm (L4f) Tryz.func52 rfl rfl ⟨rfl,rfl,rfl,trivial⟩ ?_)
 refine l_v (Iy rfl) ?_
 refine l_k k4 ?_
 refine As (t:=!(inR (((r.measures.length:Nat):Int)) 1 6)) rfl (fun b8=>?_) (fun b8=>?_)
 ·have b9:=not_eq_t b8
  have q9:=Tr.1 b9
  refine w_q rfl rfl fun K10 k10=>?_
  refine l_v (Cp (v:=(iV (2))) rfl) ?_
  refine l_k k10 ?_
  refine Aj (Asf l2) ?_
  refine Aq ?_
  refine hret _ _ _ ⟨rfl,rfl,Eq.trans (b:=(iV (2))) rfl ?_⟩
  simp only [L0q,b8,b9,Bool.false_eq_true,if_false]
 have b11:=not_eq_f b8
 have q11:=Fz.1 b11
 refine Al ?_
 apply k3
 refine Asb rfl rfl fun K12 K13 k12 k13=>?_
 refine l_v (Cp (v:=(iV (0))) rfl) ?_
 refine l_k k13 ?_
 refine Ao ?_
 refine Cc (fun mm ee dd ρ' σ'=>∃ (i:Nat),(r.measures.length - i) = mm∧[] = dd∧ρ2 = ρ'∧σ = σ'∧ee 1 = (.pointer (some ⟨k2,0,none⟩))∧ee 3 = (iV ((i:Int)))∧(i ≤ r.measures.length)∧(∀ j,j < i→L0p r j = 0)∧True) (m:=_) ⟨0,rfl,rfl,rfl,rfl,rfl,rfl,(Nat.zero_le _),(fun j h=>absurd h (Nat.not_lt_zero _)),trivial⟩ ?_
 rintro m14 e14 _ _ _ ⟨i,rfl,rfl,rfl,rfl,h14_1,h14_3,p14_0,p14_1,_⟩
 refine Asb rfl rfl fun K15 K16 k15 k16=>?_
 refine l_v (Ah (v:=(iV ((i:Int)))) h14_3) ?_
 refine Arw (Ay GRule.f_measures Tryz.underlying25 rfl rfl L0g (by decide) h14_1 r2) fun v17 r17=>?_
 refine Arw (Ax L0g rfl r17) fun v18 r18=>?_
 have g19:=Val.len r18
 refine l_v (Ci (el:=39) Tryz.underlying22 rfl r18) ?_
 refine l_v (Da rfl rfl) ?_
 refine l_k k16 ?_
 refine As (t:=decide ((i:Int) < ((r.measures.length:Nat):Int))) rfl (fun b20=>?_) (fun b20=>?_)
 ·have q20:=of_decide_eq_true b20
  refine Al ?_
  apply k15
  refine Ai fun K21 k21=>?_
  refine Ao ?_
  refine w_q rfl rfl fun K22 k22=>?_
  refine Arw (Ax L1e h14_1 r2) fun v23 r23=>?_
  refine l_v (Ah (v:=(iV ((i:Int)))) h14_3) ?_
  refine Arv (Bm (L3i r23 (by omega) (by omega)) Tryz.func79 rfl rfl ⟨rfl,rfl,trivial⟩ ?_)
  refine l_v (Cp (v:=(iV (L0p r i))) rfl) ?_
  refine Arx rfl rfl k22 fun K24 k24=>?_
  refine l_v (Ah (v:=(iV (L0p r i))) rfl) ?_
  refine l_v (Dg rfl rfl) ?_
  refine l_k k24 ?_
  refine As (t:=L0p r i != 0) rfl (fun b25=>?_) (fun b25=>?_)
  ·have q25:=Ls b25
   refine w_q rfl rfl fun K26 k26=>?_
   refine l_v (Ah (v:=(iV (L0p r i))) rfl) ?_
   refine l_v (Cp (v:=(iV (L0p r i))) rfl) ?_
   refine l_k k26 ?_
   refine Aj (Asf l2) ?_
   refine Aq ?_
   refine hret _ _ _ ⟨rfl,rfl,Eq.trans (b:=(iV (L0p r i))) rfl ?_⟩
   simp only [L0q,b8,b11,b20,b25,if_true]
   rw [Db p14_1 (by omega) rfl q25,Ry q25]
  have q25:=Jh b25
  refine Al ?_
  apply k21
  refine Ag rfl rfl ?_
  refine l_v (Ah (v:=(iV ((i:Int)))) h14_3) ?_
  refine l_v (Br rfl rfl (z:=(((i + 1):Nat):Int)) (Bo (by first | rfl | omega | (push_cast; rfl)) (by omega) (by omega))) ?_
  refine l_v (Cp (v:=(iV ((((i + 1):Nat):Int)))) rfl) ?_
  apply Ac
  refine ⟨_,?_,((i + 1)),rfl,rfl,rfl,rfl,h14_1,rfl,(by omega),(Eg p14_1 (by omega)),trivial⟩
  omega
 have q20:=of_decide_eq_false b20
 refine Bx ?_
 apply k12
 refine Asb rfl rfl fun K27 K28 k27 k28=>?_
 refine Arw (Ay GRule.f_grades Tryz.underlying25 rfl rfl L0s (by decide) h14_1 r2) fun v29 r29=>?_
 refine Arw (Ax L0s rfl r29) fun v30 r30=>?_
 have g31:=Val.len r30
 refine l_v (Ci (el:=100) Tryz.underlying23 rfl r30) ?_
 refine l_v (Gl rfl rfl) ?_
 refine l_k k28 ?_
 refine As (t:=decide (((r.grades.length:Nat):Int) > 5)) rfl (fun b32=>?_) (fun b32=>?_)
 ·have q32:=of_decide_eq_true b32
  refine w_q rfl rfl fun K33 k33=>?_
  refine l_v (Cp (v:=(iV (2))) rfl) ?_
  refine l_k k33 ?_
  refine Aj (Asf l2) ?_
  refine Aq ?_
  refine hret _ _ _ ⟨rfl,rfl,Eq.trans (b:=(iV (2))) rfl ?_⟩
  simp only [L0q,b8,b11,b20,b32,if_true]
  rw [Fb fun j hj=>p14_1 j (by omega),Gr rfl]
  rw [if_pos (by omega)]
 have q32:=of_decide_eq_false b32
 refine Al ?_
 apply k27
 refine Asb rfl rfl fun K34 K35 k34 k35=>?_
 refine l_v (Cp (v:=(iV (0))) rfl) ?_
 refine l_k k35 ?_
 refine Ao ?_
 refine Cc (fun mm ee dd ρ' σ'=>∃ (g:Nat),(r.grades.length - g) = mm∧[] = dd∧ρ2 = ρ'∧σ = σ'∧ee 1 = (.pointer (some ⟨k2,0,none⟩))∧ee 5 = (iV ((g:Int)))∧(g ≤ r.grades.length)∧(∀ j,j < g→L0i r j = 0)∧True) (m:=_) ⟨0,rfl,rfl,rfl,rfl,h14_1,rfl,(Nat.zero_le _),(fun j h=>absurd h (Nat.not_lt_zero _)),trivial⟩ ?_
 rintro m36 e36 _ _ _ ⟨g,rfl,rfl,rfl,rfl,h36_1,h36_5,p36_0,p36_1,_⟩
 refine Asb rfl rfl fun K37 K38 k37 k38=>?_
 refine l_v (Ah (v:=(iV ((g:Int)))) h36_5) ?_
 refine Arw (Ay GRule.f_grades Tryz.underlying25 rfl rfl L0s (by decide) h36_1 r2) fun v39 r39=>?_
 refine Arw (Ax L0s rfl r39) fun v40 r40=>?_
 have g41:=Val.len r40
 refine l_v (Ci (el:=100) Tryz.underlying23 rfl r40) ?_
 refine l_v (Da rfl rfl) ?_
 refine l_k k38 ?_
 refine As (t:=decide ((g:Int) < ((r.grades.length:Nat):Int))) rfl (fun b42=>?_) (fun b42=>?_)
 ·have q42:=of_decide_eq_true b42
  refine Al ?_
  apply k37
  refine Ai fun K43 k43=>?_
  refine Ao ?_
  refine w_q rfl rfl fun K44 k44=>?_
  refine Arw (Ax L1e h36_1 r2) fun v45 r45=>?_
  refine l_v (Ah (v:=(iV ((g:Int)))) h36_5) ?_
  refine Arv (Bm (L4h r45 (by omega) (by omega)) Tryz.func80 rfl rfl ⟨rfl,rfl,trivial⟩ ?_)
  refine l_v (Cp (v:=(iV (L0i r g))) rfl) ?_
  refine Arx rfl rfl k44 fun K46 k46=>?_
  refine l_v (Ah (v:=(iV (L0i r g))) rfl) ?_
  refine l_v (Dg rfl rfl) ?_
  refine l_k k46 ?_
  refine As (t:=L0i r g != 0) rfl (fun b47=>?_) (fun b47=>?_)
  ·have q47:=Ls b47
   refine w_q rfl rfl fun K48 k48=>?_
   refine l_v (Ah (v:=(iV (L0i r g))) rfl) ?_
   refine l_v (Cp (v:=(iV (L0i r g))) rfl) ?_
   refine l_k k48 ?_
   refine Aj (Asf l2) ?_
   refine Aq ?_
   refine hret _ _ _ ⟨rfl,rfl,Eq.trans (b:=(iV (L0i r g))) rfl ?_⟩
   simp only [L0q,b8,b11,b20,b32,b42,b47,if_true]
   rw [Fb fun j hj=>p14_1 j (by omega),Gr rfl]
   rw [if_neg (by omega)]
   rw [Db (i:=g) p36_1 (by omega) rfl q47]
  have q47:=Jh b47
  refine Al ?_
  apply k43
  refine Ag rfl rfl ?_
  refine l_v (Ah (v:=(iV ((g:Int)))) h36_5) ?_
  refine l_v (Br rfl rfl (z:=(((g + 1):Nat):Int)) (Bo (by first | rfl | omega | (push_cast; rfl)) (by omega) (by omega))) ?_
  refine l_v (Cp (v:=(iV ((((g + 1):Nat):Int)))) rfl) ?_
  apply Ac
  refine ⟨_,?_,((g + 1)),rfl,rfl,rfl,rfl,h36_1,rfl,(by omega),(Eg p36_1 (by omega)),trivial⟩
  omega
 have q42:=of_decide_eq_false b42
 refine Bx ?_
 apply k34
 refine w_q rfl rfl fun K49 k49=>?_
 refine l_v (Cp (v:=(iV (0))) rfl) ?_
 refine l_k k49 ?_
 refine Aj (Asf l2) ?_
 refine Aq ?_
 refine hret _ _ _ ⟨rfl,rfl,Eq.trans (b:=(iV (0))) rfl ?_⟩
 simp only [L0q,b8,b11,b20,b32,b42,if_true]
 rw [Fb fun j hj=>p14_1 j (by omega),Gr rfl]
 rw [if_neg (by omega)]
 rw [Fb fun j hj=>p36_1 j (by omega)]
set_option maxRecDepth 100000 in
theorem L3h {mn:Bool} {X:Frame→List Frame→Ro→Own→Cy→Prop} {ρ:Ro} {σ:Own} {r:GRule} {vr:Value} {l:List Span} {vl:Value} (rr:Val ρ vr r) (rl:Val ρ vl l):CallsH (CX mn X) 8 #[vr,vl] ρ σ (fun w ρ' σ'=>ρ' = ρ∧σ' = σ∧w = (iV (L0f r l))):=by
 refine Bh (n:=30) (args:=[vr,vl]) [4] Tryz.func8 rfl rfl rfl rfl fun Q hret hnor=>?_
 refine w_q rfl rfl fun K1 k1=>?_
 refine Arv (Eb (v:=vr) rfl fun k2=>?_)
 refine Bb (a:=r) rr fun ρ2 l2 r2=>?_
 replace rl:=Asj l2 rl
 refine l_v (Cp (v:=(iV (0))) rfl) ?_
 refine Ary rfl rfl k1 fun K3 K4 k3 k4=>?_
 refine Arw (Ax L1e rfl r2) fun v5 r5=>?_
 refine Arv (Bm (L6b r5) Tryz.func32 rfl rfl ⟨rfl,trivial⟩ ?_)
 refine l_v (Cp (v:=(iV (L0q r))) rfl) ?_
 refine Arx rfl rfl k4 fun K6 k6=>?_
 refine l_v (Ah (v:=(iV (L0q r))) rfl) ?_
 refine l_v (Dg rfl rfl) ?_
 refine l_k k6 ?_
 refine As (t:=L0q r != 0) rfl (fun b7=>?_) (fun b7=>?_)
 ·have q7:=Ls b7
  refine w_q rfl rfl fun K8 k8=>?_
  refine l_v (Ah (v:=(iV (L0q r))) rfl) ?_
  refine l_v (Cp (v:=(iV (L0q r))) rfl) ?_
  refine l_k k8 ?_
  refine Aj (Asf l2) ?_
  refine Aq ?_
  refine hret _ _ _ ⟨rfl,rfl,Eq.trans (b:=(iV (L0q r))) rfl ?_⟩
  rw [L0f,Ry q7]
 have q7:=Jh b7
 refine Al ?_
 apply k3
 refine Asb rfl rfl fun K9 K10 k9 k10=>?_
 refine l_v (Ah (v:=vl) rfl) ?_
 have g11:=Val.len rl
 refine l_v (Ci (el:=41) Tryz.underlying26 rfl rl) ?_
 refine Arw (Ay GRule.f_measures Tryz.underlying25 rfl rfl L0g (by decide) rfl r2) fun v12 r12=>?_
 refine Arw (Ax L0g rfl r12) fun v13 r13=>?_
 have g14:=Val.len r13
 refine l_v (Ci (el:=39) Tryz.underlying22 rfl r13) ?_
 refine l_v (Dg rfl rfl) ?_
 refine l_k k10 ?_
 refine As (t:=((l.length:Nat):Int) != ((r.measures.length:Nat):Int)) rfl (fun b15=>?_) (fun b15=>?_)
 ·have q15:=Ls b15
  refine w_q rfl rfl fun K16 k16=>?_
  refine l_v (Cp (v:=(iV (2))) rfl) ?_
  refine l_k k16 ?_
  refine Aj (Asf l2) ?_
  refine Aq ?_
  refine hret _ _ _ ⟨rfl,rfl,Eq.trans (b:=(iV (2))) rfl ?_⟩
  rw [L0f,Gr q7]
  rw [if_neg (by omega)]
 have q15:=Jh b15
 refine Al ?_
 apply k9
 refine Asb rfl rfl fun K17 K18 k17 k18=>?_
 refine l_v (Cp (v:=(iV (0))) rfl) ?_
 refine l_k k18 ?_
 refine Ao ?_
 refine Cc (fun mm ee dd ρ' σ'=>∃ (i:Nat),(l.length - i) = mm∧[] = dd∧ρ2 = ρ'∧σ = σ'∧ee 1 = vl∧ee 6 = (iV ((i:Int)))∧(i ≤ l.length)∧(∀ j,j < i→L2g l j = 0)∧True) (m:=_) ⟨0,rfl,rfl,rfl,rfl,rfl,rfl,(Nat.zero_le _),(fun j h=>absurd h (Nat.not_lt_zero _)),trivial⟩ ?_
 rintro m19 e19 _ _ _ ⟨i,rfl,rfl,rfl,rfl,h19_1,h19_6,p19_0,p19_1,_⟩
 refine Asb rfl rfl fun K20 K21 k20 k21=>?_
 refine l_v (Ah (v:=(iV ((i:Int)))) h19_6) ?_
 refine l_v (Ah (v:=vl) h19_1) ?_
 have g22:=Val.len rl
 refine l_v (Ci (el:=41) Tryz.underlying26 rfl rl) ?_
 refine l_v (Da rfl rfl) ?_
 refine l_k k21 ?_
 refine As (t:=decide ((i:Int) < ((l.length:Nat):Int))) rfl (fun b23=>?_) (fun b23=>?_)
 ·have q23:=of_decide_eq_true b23
  refine Al ?_
  apply k20
  refine Ai fun K24 k24=>?_
  refine Ao ?_
  refine w_q rfl rfl fun K25 k25=>?_
  refine l_v (Ah (v:=vl) h19_1) ?_
  refine l_v (Ah (v:=(iV ((i:Int)))) h19_6) ?_
  obtain ⟨a27,ha27⟩:=Ed (xs:=l) (i:=i) (by omega)
  refine Arw (Ch i Tryz.underlying26 Mx rfl rl (q:=(i:Int)) rfl rfl ha27) fun v26 r26=>?_
  refine Arw (Ax Mx rfl r26) fun v28 r28=>?_
  refine Arv (Bm (L2k r28) Tryz.func33 rfl rfl ⟨rfl,rfl,rfl,trivial⟩ ?_)
  refine l_v (Iy rfl) ?_
  refine l_k k25 ?_
  refine As (t:=!(Ef a27 0 1000)) rfl (fun b29=>?_) (fun b29=>?_)
  ·have b30:=not_eq_t b29
   refine w_q rfl rfl fun K31 k31=>?_
   refine l_v (Cp (v:=(iV (1))) rfl) ?_
   refine l_k k31 ?_
   refine Aj (Asf l2) ?_
   refine Aq ?_
   refine hret _ _ _ ⟨rfl,rfl,Eq.trans (b:=(iV (1))) rfl ?_⟩
   rw [L0f,Gr q7]
   rw [if_pos (by omega)]
   rw [Db (v:=1) p19_1 (by omega) (by simp [L2g,ha27,b7,b15,b23,b29,b30,q7,q15,q23]) (by omega)]
  have b32:=not_eq_f b29
  refine Al ?_
  apply k24
  refine Ag rfl rfl ?_
  refine l_v (Ah (v:=(iV ((i:Int)))) h19_6) ?_
  refine l_v (Br rfl rfl (z:=(((i + 1):Nat):Int)) (Bo (by first | rfl | omega | (push_cast; rfl)) (by omega) (by omega))) ?_
  refine l_v (Cp (v:=(iV ((((i + 1):Nat):Int)))) rfl) ?_
  apply Ac
  refine ⟨_,?_,((i + 1)),rfl,rfl,rfl,rfl,h19_1,rfl,(by omega),(Eg p19_1 (by simp [L2g,ha27,b7,b15,b23,b29,b32,q7,q15,q23])),trivial⟩
  omega
 have q23:=of_decide_eq_false b23
 refine Bx ?_
 apply k17
 refine w_q rfl rfl fun K33 k33=>?_
 refine l_v (Cp (v:=(iV (0))) rfl) ?_
 refine l_k k33 ?_
 refine Aj (Asf l2) ?_
 refine Aq ?_
 refine hret _ _ _ ⟨rfl,rfl,Eq.trans (b:=(iV (0))) rfl ?_⟩
 rw [L0f,Gr q7]
 rw [if_pos (by omega)]
 rw [Fb fun j hj=>p19_1 j (by omega)]
end Go.Proofs.YtphgjjmlnkgghaaGreatDoor

namespace Go.Proofs.YtphgjjmlnkgghaaGreatDoor
set_option maxHeartbeats 1000000
open Go
theorem L7r {r:GRule} {i:Nat} {s:ByteArray} (h:inL ((r.measures.map Meas.name).take i) s = true):(Cl i (L0x r s)).isSome = true:=by
 rcases Ft (n:=i) (p:=L0x r s) with ⟨k,_,_,_,h4⟩ | ⟨h1,_⟩
 ·rw [h4]; rfl
 ·exfalso
  obtain ⟨x,hx,e⟩:=List.any_eq_true.1 h
  obtain ⟨k,hk⟩:=List.mem_iff_getElem?.1 hx
  rw [List.getElem?_take] at hk
  split at hk
  ·rename_i hki
   rw [List.getElem?_map] at hk
   obtain ⟨y,hy,rfl⟩:=Option.map_eq_some_iff.1 hk
   have:=h1 k hki
   simp only [L0x,hy] at this
   have e':s.toList = y.name.toList:=beq_iff_eq.1 e
   rw [e'] at this; simp at this
  ·cases hk
theorem L4z {r:GRule} {i:Nat} {s:ByteArray} (h:inL ((r.measures.map Meas.name).take i) s = false):(Cl i (L0x r s)).isSome = false:=by
 rcases Ft (n:=i) (p:=L0x r s) with ⟨k,hk,h2,_,h4⟩ | ⟨_,h2⟩
 ·exfalso
  unfold L0x at h2
  split at h2
  ·rename_i y hy
   have hm:y.name ∈ (r.measures.map Meas.name).take i:=List.mem_of_getElem? (i:=k) (by rw [List.getElem?_take,if_pos hk,List.getElem?_map,hy]; rfl)
   have:=List.any_eq_false.1 h _ hm
   rw [show s.toList = y.name.toList from (beq_iff_eq.1 h2).symm] at this; simp at this
  ·cases h2
 ·rw [h2]; rfl
theorem L6u {r:GRule} {i:Nat} {s:ByteArray} (h:inL ((r.grades.map GGrade.name).take i) s = true):(Cl i (L0v r s)).isSome = true:=by
 rcases Ft (n:=i) (p:=L0v r s) with ⟨k,_,_,_,h4⟩ | ⟨h1,_⟩
 ·rw [h4]; rfl
 ·exfalso
  obtain ⟨x,hx,e⟩:=List.any_eq_true.1 h
  obtain ⟨k,hk⟩:=List.mem_iff_getElem?.1 hx
  rw [List.getElem?_take] at hk
  split at hk
  ·rename_i hki
   rw [List.getElem?_map] at hk
   obtain ⟨y,hy,rfl⟩:=Option.map_eq_some_iff.1 hk
   have:=h1 k hki
   simp only [L0v,hy] at this
   have e':s.toList = y.name.toList:=beq_iff_eq.1 e
   rw [e'] at this; simp at this
  ·cases hk
theorem L2s {r:GRule} {i:Nat} {s:ByteArray} (h:inL ((r.grades.map GGrade.name).take i) s = false):(Cl i (L0v r s)).isSome = false:=by
 rcases Ft (n:=i) (p:=L0v r s) with ⟨k,hk,h2,_,h4⟩ | ⟨_,h2⟩
 ·exfalso
  unfold L0v at h2
  split at h2
  ·rename_i y hy
   have hm:y.name ∈ (r.grades.map GGrade.name).take i:=List.mem_of_getElem? (i:=k) (by rw [List.getElem?_take,if_pos hk,List.getElem?_map,hy]; rfl)
   have:=List.any_eq_false.1 h _ hm
   rw [show s.toList = y.name.toList from (beq_iff_eq.1 h2).symm] at this; simp at this
  ·cases h2
 ·rw [h2]; rfl
theorem L4d {l:List Span}:Hl l.length (L2g l) = if l.any (fun x=>!Ef x 0 1000) then 1 else 0:=by
 have h:=We (l:=l) rfl
 rw [Fm,if_pos rfl] at h
 exact h
set_option maxRecDepth 100000 in
theorem L1b {mn:Bool} {X:Frame→List Frame→Ro→Own→Cy→Prop} {ρ:Ro} {σ:Own} {n low high:Int} :CallsH (CX mn X) 144 #[(iV (n)),(iV (low)),(iV (high))] ρ σ (fun w ρ' σ'=>ρ' = ρ∧σ' = σ∧w = (.bool (inR n low high))):=by
 refine Bh (n:=15) (args:=[(iV (n)),(iV (low)),(iV (high))]) [6] Tryz.func144 rfl rfl rfl rfl fun Q hret hnor=>?_
 refine w_q rfl rfl fun K1 k1=>?_
 refine l_v (Cp (v:=(.bool (false))) rfl) ?_
 refine Arx rfl rfl k1 fun K2 k2=>?_
 refine l_v (Ah (v:=(iV (low))) rfl) ?_
 refine l_v (Ah (v:=(iV (n))) rfl) ?_
 refine l_v (Uz rfl rfl) ?_
 refine l_v (Ah (v:=(.bool (decide (low ≤ n)))) rfl) ?_
 refine Cn (decide (low ≤ n)) (fun b3=>?_) (fun b3=>?_)
 ·have q3:=of_decide_eq_true b3
  refine l_M (iV (n)) (Ar rfl rfl rfl b3) rfl ?_
  refine l_M (iV (high)) (Ar rfl rfl rfl b3) rfl ?_
  refine Aa (Ar rfl rfl rfl b3) (Uz rfl rfl) ?_
  refine l_v (Bt rfl b3 (v:=(.bool (decide (n ≤ high)))) rfl) ?_
  refine l_v (Cp (v:=(.bool (decide (n ≤ high)))) rfl) ?_
  refine l_k k2 ?_
  refine Aq ?_
  refine hret _ _ _ ⟨rfl,rfl,Eq.trans (b:=(.bool (decide (n ≤ high)))) rfl ?_⟩
  simp only [inR,b3,Bool.true_and,Bool.false_and,Bool.and_true,Bool.and_false,Bool.true_or,Bool.false_or,Bool.or_true,Bool.or_false,Bool.not_true,Bool.not_false]
 have q3:=of_decide_eq_false b3
 refine Ap (Bl rfl rfl rfl b3) ?_
 refine Ap (Bl rfl rfl rfl b3) ?_
 refine Ap (Bl rfl rfl rfl b3) ?_
 refine l_v (Bn rfl b3 (v:=(.bool (false))) rfl) ?_
 refine l_v (Cp (v:=(.bool (false))) rfl) ?_
 refine l_k k2 ?_
 refine Aq ?_
 refine hret _ _ _ ⟨rfl,rfl,Eq.trans (b:=(.bool (false))) rfl ?_⟩
 simp only [inR,b3,Bool.true_and,Bool.false_and,Bool.and_true,Bool.and_false,Bool.true_or,Bool.false_or,Bool.or_true,Bool.or_false,Bool.not_true,Bool.not_false]
set_option maxRecDepth 100000 in
theorem L3z {mn:Bool} {X:Frame→List Frame→Ro→Own→Cy→Prop} {ρ:Ro} {σ:Own} {x:Span} {vx:Value} {low high:Int} (rx:Val ρ vx x):CallsH (CX mn X) 105 #[vx,(iV (low)),(iV (high))] ρ σ (fun w ρ' σ'=>ρ' = ρ∧σ' = σ∧w = (.bool (Ef x low high))):=by
 refine Bh (n:=24) (args:=[vx,(iV (low)),(iV (high))]) [6] Tryz.func105 rfl rfl rfl rfl fun Q hret hnor=>?_
 refine w_q rfl rfl fun K1 k1=>?_
 refine Arv (Eb (v:=vx) rfl fun k2=>?_)
 refine Bb (a:=x) rx fun ρ2 l2 r2=>?_
 refine l_v (Cp (v:=(.bool (false))) rfl) ?_
 refine Arx rfl rfl k1 fun K3 k3=>?_
 refine l_v (Ah (v:=(iV (low))) rfl) ?_
 refine Arw (Ay Span.f_low Tryz.underlying41 rfl rfl ty3 (by decide) rfl r2) fun v4 r4=>?_
 have ⟨g5a,g5b⟩:=At.rng r4
 refine l_v (Bc ty3 rfl r4) ?_
 refine l_v (Uz rfl rfl) ?_
 refine l_v (Ah (v:=(.bool (decide (low ≤ x.low)))) rfl) ?_
 refine Cn (decide (low ≤ x.low)) (fun b6=>?_) (fun b6=>?_)
 ·have q6:=of_decide_eq_true b6
  refine Ak (Ar rfl rfl rfl b6) (Ay Span.f_low Tryz.underlying41 rfl rfl ty3 (by decide) rfl r2) fun v7 r7=>?_
  have ⟨g8a,g8b⟩:=At.rng r7
  refine Aa (Ar rfl rfl rfl b6) (Bc ty3 rfl r7) ?_
  refine Ak (Ar rfl rfl rfl b6) (Ay Span.f_high Tryz.underlying41 rfl rfl ty3 (by decide) rfl r2) fun v9 r9=>?_
  have ⟨g10a,g10b⟩:=At.rng r9
  refine Aa (Ar rfl rfl rfl b6) (Bc ty3 rfl r9) ?_
  refine Aa (Ar rfl rfl rfl b6) (Uz rfl rfl) ?_
  refine l_v (Bt rfl b6 (v:=(.bool (decide (x.low ≤ x.high)))) rfl) ?_
  refine l_v (Ah (v:=(.bool (decide (x.low ≤ x.high)))) rfl) ?_
  refine Cn (decide (x.low ≤ x.high)) (fun b11=>?_) (fun b11=>?_)
  ·have q11:=of_decide_eq_true b11
   refine Ak (Ar rfl rfl rfl b11) (Ay Span.f_high Tryz.underlying41 rfl rfl ty3 (by decide) rfl r2) fun v12 r12=>?_
   have ⟨g13a,g13b⟩:=At.rng r12
   refine Aa (Ar rfl rfl rfl b11) (Bc ty3 rfl r12) ?_
   refine l_M (iV (high)) (Ar rfl rfl rfl b11) rfl ?_
   refine Aa (Ar rfl rfl rfl b11) (Uz rfl rfl) ?_
   refine l_v (Bt rfl b11 (v:=(.bool (decide (x.high ≤ high)))) rfl) ?_
   refine l_v (Cp (v:=(.bool (decide (x.high ≤ high)))) rfl) ?_
   refine l_k k3 ?_
   refine Aj (Asf l2) ?_
   refine Aq ?_
   refine hret _ _ _ ⟨rfl,rfl,Eq.trans (b:=(.bool (decide (x.high ≤ high)))) rfl ?_⟩
   simp only [Ef,b6,b11,Bool.true_and,Bool.false_and,Bool.and_true,Bool.and_false,Bool.true_or,Bool.false_or,Bool.or_true,Bool.or_false,Bool.not_true,Bool.not_false]
  have q11:=of_decide_eq_false b11
  refine Ap (Bl rfl rfl rfl b11) ?_
  refine Ap (Bl rfl rfl rfl b11) ?_
  refine Ap (Bl rfl rfl rfl b11) ?_
  refine Ap (Bl rfl rfl rfl b11) ?_
  refine l_v (Bn rfl b11 (v:=(.bool (false))) rfl) ?_
  refine l_v (Cp (v:=(.bool (false))) rfl) ?_
  refine l_k k3 ?_
  refine Aj (Asf l2) ?_
  refine Aq ?_
  refine hret _ _ _ ⟨rfl,rfl,Eq.trans (b:=(.bool (false))) rfl ?_⟩
  simp only [Ef,b6,b11,Bool.true_and,Bool.false_and,Bool.and_true,Bool.and_false,Bool.true_or,Bool.false_or,Bool.or_true,Bool.or_false,Bool.not_true,Bool.not_false]
 have q6:=of_decide_eq_false b6
 refine Ap (Bl rfl rfl rfl b6) ?_
 refine Ap (Bl rfl rfl rfl b6) ?_
 refine Ap (Bl rfl rfl rfl b6) ?_
 refine Ap (Bl rfl rfl rfl b6) ?_
 refine Ap (Bl rfl rfl rfl b6) ?_
 refine l_v (Bn rfl b6 (v:=(.bool (false))) rfl) ?_
 refine l_v (Ah (v:=(.bool (false))) rfl) ?_
 refine Ap (Bl rfl rfl rfl rfl) ?_
 refine Ap (Bl rfl rfl rfl rfl) ?_
 refine Ap (Bl rfl rfl rfl rfl) ?_
 refine Ap (Bl rfl rfl rfl rfl) ?_
 refine l_v (Bn rfl rfl (v:=(.bool (false))) rfl) ?_
 refine l_v (Cp (v:=(.bool (false))) rfl) ?_
 refine l_k k3 ?_
 refine Aj (Asf l2) ?_
 refine Aq ?_
 refine hret _ _ _ ⟨rfl,rfl,Eq.trans (b:=(.bool (false))) rfl ?_⟩
 simp only [Ef,b6,Bool.true_and,Bool.false_and,Bool.and_true,Bool.and_false,Bool.true_or,Bool.false_or,Bool.or_true,Bool.or_false,Bool.not_true,Bool.not_false]
set_option maxRecDepth 100000 in
theorem L6d {mn:Bool} {X:Frame→List Frame→Ro→Own→Cy→Prop} {ρ:Ro} {σ:Own} {c:UInt8} :CallsH (CX mn X) 187 #[(.int .u8 (((c.toNat:Nat):Int)))] ρ σ (fun w ρ' σ'=>ρ' = ρ∧σ' = σ∧w = (.bool (Ov ((c.toNat:Nat):Int)))):=by
 refine Bh (n:=21) (args:=[(.int .u8 (((c.toNat:Nat):Int)))]) [2] Tryz.func187 rfl rfl rfl rfl fun Q hret hnor=>?_
 refine w_q rfl rfl fun K1 k1=>?_
 refine l_v (Cp (v:=(.bool (false))) rfl) ?_
 refine Arx rfl rfl k1 fun K2 k2=>?_
 refine l_v (Ah (v:=(.int .u8 (((c.toNat:Nat):Int)))) rfl) ?_
 refine l_v (Da rfl rfl) ?_
 refine l_v (Ah (v:=(.bool (decide (((c.toNat:Nat):Int) < 97)))) rfl) ?_
 refine Cn (decide (((c.toNat:Nat):Int) < 97)) (fun b3=>?_) (fun b3=>?_)
 ·have q3:=of_decide_eq_true b3
  refine Ap (Bl rfl rfl rfl b3) ?_
  refine Ap (Bl rfl rfl rfl b3) ?_
  refine l_v (Bt rfl b3 (v:=(.bool (true))) rfl) ?_
  refine l_v (Ah (v:=(.bool (true))) rfl) ?_
  refine l_M (.int .u8 (((c.toNat:Nat):Int))) (Ar rfl rfl rfl rfl) rfl ?_
  refine Aa (Ar rfl rfl rfl rfl) (Da rfl rfl) ?_
  refine l_M (.bool (decide (((c.toNat:Nat):Int) < 48))) (Ar rfl rfl rfl rfl) rfl ?_
  refine Cn (decide (((c.toNat:Nat):Int) < 48)) (fun b4=>?_) (fun b4=>?_)
  ·have q4:=of_decide_eq_true b4
   refine Ap (Bl rfl rfl rfl b4) ?_
   refine Ap (Bl rfl rfl rfl b4) ?_
   refine Aa (Ar rfl rfl rfl rfl) (Bt rfl b4 (v:=(.bool (true))) rfl) ?_
   refine l_v (Bt rfl rfl (v:=(.bool (true))) rfl) ?_
   refine l_v (Ah (v:=(.bool (true))) rfl) ?_
   refine l_M (.int .u8 (((c.toNat:Nat):Int))) (Ar rfl rfl rfl rfl) rfl ?_
   refine Aa (Ar rfl rfl rfl rfl) (Dg rfl rfl) ?_
   refine l_v (Bt rfl rfl (v:=(.bool (((c.toNat:Nat):Int) != 45))) rfl) ?_
   refine l_v (Cp (v:=(.bool (((c.toNat:Nat):Int) != 45))) rfl) ?_
   refine l_k k2 ?_
   refine Aq ?_
   refine hret _ _ _ ⟨rfl,rfl,Eq.trans (b:=(.bool (((c.toNat:Nat):Int) != 45))) rfl ?_⟩
   simp only [Ov,b3,b4,Bool.true_and,Bool.false_and,Bool.and_true,Bool.and_false,Bool.true_or,Bool.false_or,Bool.or_true,Bool.or_false,Bool.not_true,Bool.not_false]
  have q4:=of_decide_eq_false b4
  refine l_M (.int .u8 (((c.toNat:Nat):Int))) (Ar rfl rfl rfl b4) rfl ?_
  refine Aa (Ar rfl rfl rfl b4) (Gl rfl rfl) ?_
  refine Aa (Ar rfl rfl rfl rfl) (Bn rfl b4 (v:=(.bool (decide (((c.toNat:Nat):Int) > 57)))) rfl) ?_
  refine l_v (Bt rfl rfl (v:=(.bool (decide (((c.toNat:Nat):Int) > 57)))) rfl) ?_
  refine l_v (Ah (v:=(.bool (decide (((c.toNat:Nat):Int) > 57)))) rfl) ?_
  refine Cn (decide (((c.toNat:Nat):Int) > 57)) (fun b5=>?_) (fun b5=>?_)
  ·have q5:=of_decide_eq_true b5
   refine l_M (.int .u8 (((c.toNat:Nat):Int))) (Ar rfl rfl rfl b5) rfl ?_
   refine Aa (Ar rfl rfl rfl b5) (Dg rfl rfl) ?_
   refine l_v (Bt rfl b5 (v:=(.bool (((c.toNat:Nat):Int) != 45))) rfl) ?_
   refine l_v (Cp (v:=(.bool (((c.toNat:Nat):Int) != 45))) rfl) ?_
   refine l_k k2 ?_
   refine Aq ?_
   refine hret _ _ _ ⟨rfl,rfl,Eq.trans (b:=(.bool (((c.toNat:Nat):Int) != 45))) rfl ?_⟩
   simp only [Ov,b3,b4,b5,Bool.true_and,Bool.false_and,Bool.and_true,Bool.and_false,Bool.true_or,Bool.false_or,Bool.or_true,Bool.or_false,Bool.not_true,Bool.not_false]
  have q5:=of_decide_eq_false b5
  refine Ap (Bl rfl rfl rfl b5) ?_
  refine Ap (Bl rfl rfl rfl b5) ?_
  refine l_v (Bn rfl b5 (v:=(.bool (false))) rfl) ?_
  refine l_v (Cp (v:=(.bool (false))) rfl) ?_
  refine l_k k2 ?_
  refine Aq ?_
  refine hret _ _ _ ⟨rfl,rfl,Eq.trans (b:=(.bool (false))) rfl ?_⟩
  simp only [Ov,b3,b4,b5,Bool.true_and,Bool.false_and,Bool.and_true,Bool.and_false,Bool.true_or,Bool.false_or,Bool.or_true,Bool.or_false,Bool.not_true,Bool.not_false]
 have q3:=of_decide_eq_false b3
 refine l_M (.int .u8 (((c.toNat:Nat):Int))) (Ar rfl rfl rfl b3) rfl ?_
 refine Aa (Ar rfl rfl rfl b3) (Gl rfl rfl) ?_
 refine l_v (Bn rfl b3 (v:=(.bool (decide (((c.toNat:Nat):Int) > 122)))) rfl) ?_
 refine l_v (Ah (v:=(.bool (decide (((c.toNat:Nat):Int) > 122)))) rfl) ?_
 refine Cn (decide (((c.toNat:Nat):Int) > 122)) (fun b6=>?_) (fun b6=>?_)
 ·have q6:=of_decide_eq_true b6
  refine l_M (.int .u8 (((c.toNat:Nat):Int))) (Ar rfl rfl rfl b6) rfl ?_
  refine Aa (Ar rfl rfl rfl b6) (Da rfl rfl) ?_
  refine l_M (.bool (decide (((c.toNat:Nat):Int) < 48))) (Ar rfl rfl rfl b6) rfl ?_
  refine Cn (decide (((c.toNat:Nat):Int) < 48)) (fun b7=>?_) (fun b7=>?_)
  ·have q7:=of_decide_eq_true b7
   refine Ap (Bl rfl rfl rfl b7) ?_
   refine Ap (Bl rfl rfl rfl b7) ?_
   refine Aa (Ar rfl rfl rfl b6) (Bt rfl b7 (v:=(.bool (true))) rfl) ?_
   refine l_v (Bt rfl b6 (v:=(.bool (true))) rfl) ?_
   refine l_v (Ah (v:=(.bool (true))) rfl) ?_
   refine l_M (.int .u8 (((c.toNat:Nat):Int))) (Ar rfl rfl rfl rfl) rfl ?_
   refine Aa (Ar rfl rfl rfl rfl) (Dg rfl rfl) ?_
   refine l_v (Bt rfl rfl (v:=(.bool (((c.toNat:Nat):Int) != 45))) rfl) ?_
   refine l_v (Cp (v:=(.bool (((c.toNat:Nat):Int) != 45))) rfl) ?_
   refine l_k k2 ?_
   refine Aq ?_
   refine hret _ _ _ ⟨rfl,rfl,Eq.trans (b:=(.bool (((c.toNat:Nat):Int) != 45))) rfl ?_⟩
   simp only [Ov,b3,b6,b7,Bool.true_and,Bool.false_and,Bool.and_true,Bool.and_false,Bool.true_or,Bool.false_or,Bool.or_true,Bool.or_false,Bool.not_true,Bool.not_false]
  have q7:=of_decide_eq_false b7
  refine l_M (.int .u8 (((c.toNat:Nat):Int))) (Ar rfl rfl rfl b7) rfl ?_
  refine Aa (Ar rfl rfl rfl b7) (Gl rfl rfl) ?_
  refine Aa (Ar rfl rfl rfl b6) (Bn rfl b7 (v:=(.bool (decide (((c.toNat:Nat):Int) > 57)))) rfl) ?_
  refine l_v (Bt rfl b6 (v:=(.bool (decide (((c.toNat:Nat):Int) > 57)))) rfl) ?_
  refine l_v (Ah (v:=(.bool (decide (((c.toNat:Nat):Int) > 57)))) rfl) ?_
  refine Cn (decide (((c.toNat:Nat):Int) > 57)) (fun b8=>?_) (fun b8=>?_)
  ·have q8:=of_decide_eq_true b8
   refine l_M (.int .u8 (((c.toNat:Nat):Int))) (Ar rfl rfl rfl b8) rfl ?_
   refine Aa (Ar rfl rfl rfl b8) (Dg rfl rfl) ?_
   refine l_v (Bt rfl b8 (v:=(.bool (((c.toNat:Nat):Int) != 45))) rfl) ?_
   refine l_v (Cp (v:=(.bool (((c.toNat:Nat):Int) != 45))) rfl) ?_
   refine l_k k2 ?_
   refine Aq ?_
   refine hret _ _ _ ⟨rfl,rfl,Eq.trans (b:=(.bool (((c.toNat:Nat):Int) != 45))) rfl ?_⟩
   simp only [Ov,b3,b6,b7,b8,Bool.true_and,Bool.false_and,Bool.and_true,Bool.and_false,Bool.true_or,Bool.false_or,Bool.or_true,Bool.or_false,Bool.not_true,Bool.not_false]
  have q8:=of_decide_eq_false b8
  refine Ap (Bl rfl rfl rfl b8) ?_
  refine Ap (Bl rfl rfl rfl b8) ?_
  refine l_v (Bn rfl b8 (v:=(.bool (false))) rfl) ?_
  refine l_v (Cp (v:=(.bool (false))) rfl) ?_
  refine l_k k2 ?_
  refine Aq ?_
  refine hret _ _ _ ⟨rfl,rfl,Eq.trans (b:=(.bool (false))) rfl ?_⟩
  simp only [Ov,b3,b6,b7,b8,Bool.true_and,Bool.false_and,Bool.and_true,Bool.and_false,Bool.true_or,Bool.false_or,Bool.or_true,Bool.or_false,Bool.not_true,Bool.not_false]
 have q6:=of_decide_eq_false b6
 refine Ap (Bl rfl rfl rfl b6) ?_
 refine Ap (Bl rfl rfl rfl b6) ?_
 refine Ap (Bl rfl rfl rfl b6) ?_
 refine Ap (Jf rfl rfl rfl) ?_
 refine Ap (Jf rfl rfl rfl) ?_
 refine Ap (Bl rfl rfl rfl b6) ?_
 refine l_v (Bn rfl b6 (v:=(.bool (false))) rfl) ?_
 refine l_v (Ah (v:=(.bool (false))) rfl) ?_
 refine Ap (Bl rfl rfl rfl rfl) ?_
 refine Ap (Bl rfl rfl rfl rfl) ?_
 refine l_v (Bn rfl rfl (v:=(.bool (false))) rfl) ?_
 refine l_v (Cp (v:=(.bool (false))) rfl) ?_
 refine l_k k2 ?_
 refine Aq ?_
 refine hret _ _ _ ⟨rfl,rfl,Eq.trans (b:=(.bool (false))) rfl ?_⟩
 simp only [Ov,b3,b6,Bool.true_and,Bool.false_and,Bool.and_true,Bool.and_false,Bool.true_or,Bool.false_or,Bool.or_true,Bool.or_false,Bool.not_true,Bool.not_false]
set_option maxRecDepth 100000 in
theorem L6q {mn:Bool} {X:Frame→List Frame→Ro→Own→Cy→Prop} {ρ:Ro} {σ:Own} {s:ByteArray} (hs:s.size < 2 ^ 60):CallsH (CX mn X) 175 #[(.string (s))] ρ σ (fun w ρ' σ'=>ρ' = ρ∧σ' = σ∧w = (.bool (Hg s))):=by
 refine Bh (n:=21) (args:=[(.string (s))]) [2] Tryz.func175 rfl rfl rfl rfl fun Q hret hnor=>?_
 refine w_q rfl rfl fun K1 k1=>?_
 refine l_v (Cp (v:=(.bool (false))) rfl) ?_
 refine Ary rfl rfl k1 fun K2 K3 k2 k3=>?_
 refine l_v (Ah (v:=(.string (s))) rfl) ?_
 refine l_v (Afz Tryz.underlying9 (s:=s) rfl) ?_
 refine Arv (Bm (L1b) Tryz.func144 rfl rfl ⟨rfl,rfl,rfl,trivial⟩ ?_)
 refine l_v (Iy rfl) ?_
 refine l_v (Ah (v:=(.bool (!(inR (((s.size:Nat):Int)) 1 14)))) rfl) ?_
 refine Cn (!(inR (((s.size:Nat):Int)) 1 14)) (fun b4=>?_) (fun b4=>?_)
 ·have b5:=not_eq_t b4
  have q5:=Tr.1 b5
  refine Ap (Bl rfl rfl rfl b4) ?_
  refine Ap (Bl rfl rfl rfl b4) ?_
  refine Ap (Bl rfl rfl rfl b4) ?_
  refine l_v (Bt rfl b4 (v:=(.bool (true))) rfl) ?_
  refine l_v (Ah (v:=(.bool (true))) rfl) ?_
  refine Ap (Bl rfl rfl rfl rfl) ?_
  refine Ap (Bl rfl rfl rfl rfl) ?_
  refine Ap (Bl rfl rfl rfl rfl) ?_
  refine l_v (Bt rfl rfl (v:=(.bool (true))) rfl) ?_
  refine l_k k3 ?_
  refine Co rfl rfl ?_
  refine w_q rfl rfl fun K6 k6=>?_
  refine l_v (Cp (v:=(.bool (false))) rfl) ?_
  refine l_k k6 ?_
  refine Aq ?_
  refine hret _ _ _ ⟨rfl,rfl,Eq.trans (b:=(.bool (false))) rfl ?_⟩
  simp only [Hg,Qb,b4,b5,Bool.true_and,Bool.false_and,Bool.and_true,Bool.and_false,Bool.true_or,Bool.false_or,Bool.or_true,Bool.or_false,Bool.not_true,Bool.not_false]
 have b7:=not_eq_f b4
 have q7:=Fz.1 b7
 refine l_M (.string (s)) (Ar rfl rfl rfl b4) rfl ?_
 obtain ⟨c8,hc8⟩:=Alc (s:=s) (i:=0) (by omega)
 refine Aa (Ar rfl rfl rfl b4) (Ace 0 c8 Tryz.underlying9 rfl (q:=0) rfl rfl hc8) ?_
 refine Aa (Ar rfl rfl rfl b4) (Da rfl rfl) ?_
 refine l_v (Bn rfl b4 (v:=(.bool (decide (((c8.toNat:Nat):Int) < 97)))) rfl) ?_
 refine l_v (Ah (v:=(.bool (decide (((c8.toNat:Nat):Int) < 97)))) rfl) ?_
 refine Cn (decide (((c8.toNat:Nat):Int) < 97)) (fun b9=>?_) (fun b9=>?_)
 ·have q9:=of_decide_eq_true b9
  refine Ap (Bl rfl rfl rfl b9) ?_
  refine Ap (Bl rfl rfl rfl b9) ?_
  refine Ap (Bl rfl rfl rfl b9) ?_
  refine l_v (Bt rfl b9 (v:=(.bool (true))) rfl) ?_
  refine l_k k3 ?_
  refine Co rfl rfl ?_
  refine w_q rfl rfl fun K10 k10=>?_
  refine l_v (Cp (v:=(.bool (false))) rfl) ?_
  refine l_k k10 ?_
  refine Aq ?_
  refine hret _ _ _ ⟨rfl,rfl,Eq.trans (b:=(.bool (false))) rfl ?_⟩
  simp only [Hg,Qb,hc8,b4,b7,b9,Bool.true_and,Bool.false_and,Bool.and_true,Bool.and_false,Bool.true_or,Bool.false_or,Bool.or_true,Bool.or_false,Bool.not_true,Bool.not_false]
 have q9:=of_decide_eq_false b9
 refine l_M (.string (s)) (Ar rfl rfl rfl b9) rfl ?_
 refine Aa (Ar rfl rfl rfl b9) (Ace 0 c8 Tryz.underlying9 rfl (q:=0) rfl rfl hc8) ?_
 refine Aa (Ar rfl rfl rfl b9) (Gl rfl rfl) ?_
 refine l_v (Bn rfl b9 (v:=(.bool (decide (((c8.toNat:Nat):Int) > 122)))) rfl) ?_
 refine l_k k3 ?_
 refine As (t:=decide (((c8.toNat:Nat):Int) > 122)) rfl (fun b12=>?_) (fun b12=>?_)
 ·have q12:=of_decide_eq_true b12
  refine w_q rfl rfl fun K13 k13=>?_
  refine l_v (Cp (v:=(.bool (false))) rfl) ?_
  refine l_k k13 ?_
  refine Aq ?_
  refine hret _ _ _ ⟨rfl,rfl,Eq.trans (b:=(.bool (false))) rfl ?_⟩
  simp only [Hg,Qb,hc8,b4,b7,b9,b12,Bool.true_and,Bool.false_and,Bool.and_true,Bool.and_false,Bool.true_or,Bool.false_or,Bool.or_true,Bool.or_false,Bool.not_true,Bool.not_false]
 have q12:=of_decide_eq_false b12
 refine Al ?_
 apply k2
 refine w_q rfl rfl fun K14 k14=>?_
 refine l_v (Ah (v:=(.string (s))) rfl) ?_
 refine Arv (Amd (s:=s) Tryz.underlying9 Tryz.underlying308 Tryz.underlying5 rfl (by omega) fun k15 cap15 cs15 rs15 fz15 R15 hc15=>?_)
 refine Alh R15 hc15 (by omega) fun ρ15 l15 r15=>?_
 refine Arv (Bm (Ta r15 (⟨187,Tryz.f187,[],rfl,Tryz.func187,rfl,rfl,fun mn X ρ σ v x hv=>by rw [Uq.1 hv]; exact L6d⟩:Su (.func (.func 187) #[] #[]) (fun c:UInt8=>Ov ((c.toNat:Nat):Int)))) Tryz.func179 rfl rfl ⟨rfl,rfl,trivial⟩ ?_)
 refine l_v (Iy rfl) ?_
 refine l_v (Cp (v:=(.bool (!(s.data.toList.any (fun c:UInt8=>Ov ((c.toNat:Nat):Int)))))) rfl) ?_
 refine l_k k14 ?_
 refine Aj (Asf l15) ?_
 refine Aq ?_
 refine hret _ _ _ ⟨rfl,rfl,Eq.trans (b:=(.bool (!(s.data.toList.any (fun c:UInt8=>Ov ((c.toNat:Nat):Int)))))) rfl ?_⟩
 rw [Akl,Bool.not_not]
 simp only [Hg,Qb,hc8,b4,b7,b9,b12,Bool.true_and,Bool.false_and,Bool.and_true,Bool.and_false,Bool.true_or,Bool.false_or,Bool.or_true,Bool.or_false,Bool.not_true,Bool.not_false]
set_option maxRecDepth 100000 in
theorem L4u {mn:Bool} {X:Frame→List Frame→Ro→Own→Cy→Prop} {ρ:Ro} {σ:Own} {r i clock:Nat} {es:Array MapEntry} {pr:ByteArray→Bool} {s:ByteArray} (hs:Mu es pr) (hi:σ[i]? = some (r,.obj (.map es clock))) (hz:s.size < 2 ^ 60):CallsH (CX mn X) 145 #[(.map (some r)),(.string (s))] ρ σ (fun w ρ' σ'=>ρ' = ρ∧((w = .int .i64 4∧Hg s = false∧σ' = σ)∨(w = .int .i64 5∧Hg s = true∧pr s = true∧σ' = σ)∨(w = .int .i64 0∧Hg s = true∧pr s = false∧∃ es' ck',Mu es' (fun k'=>k'.toList == s.toList || pr k')∧σ' = σ.set i (r,.obj (.map es' ck'))))):=by
 refine Bh (n:=15) (args:=[(.map (some r)),(.string (s))]) [4] Tryz.func145 rfl rfl rfl rfl fun Q hret hnor=>?_
 refine w_q rfl rfl fun K1 k1=>?_
 refine l_v (Cp (v:=(iV (0))) rfl) ?_
 refine Asa k1 fun K2 k2=>?_
 refine Ao ?_
 refine w_q rfl rfl fun K3 k3=>?_
 refine l_v (Ah (v:=(.string (s))) rfl) ?_
 refine Arv (Bm (L6q (by omega)) Tryz.func175 rfl rfl ⟨rfl,trivial⟩ ?_)
 refine l_v (Iy rfl) ?_
 refine l_v (Cp (v:=(.bool (!(Hg s)))) rfl) ?_
 refine l_k k3 ?_
 refine As (t:=!(Hg s)) rfl (fun b4=>?_) (fun b4=>?_)
 ·have b5:=not_eq_t b4
  refine w_q rfl rfl fun K6 k6=>?_
  refine l_v (Cp (v:=(iV (4))) rfl) ?_
  refine l_k k6 ?_
  refine Aq ?_
  refine hret _ _ _ ?_
  exact ⟨rfl,.inl ⟨rfl,by simpa using b4,rfl⟩⟩
 have b7:=not_eq_f b4
 refine w_q rfl rfl fun K8 k8=>?_
 refine l_v (Ah (v:=(.map (some r))) rfl) ?_
 refine l_v (Ah (v:=(.string (s))) rfl) ?_
 refine Arv (Xq (i:=i) (kt:=9) (et:=4) (k:=s) (pr:=pr) Tryz.underlying270 Tryz.underlying9 zr4 hs rfl rfl hi ?_)
 refine l_v (Cp (v:=(.bool ((pr) s))) rfl) ?_
 refine l_k k8 ?_
 refine As (t:=(pr) s) rfl (fun b9=>?_) (fun b9=>?_)
 ·refine w_q rfl rfl fun K10 k10=>?_
  refine l_v (Cp (v:=(iV (5))) rfl) ?_
  refine l_k k10 ?_
  refine Aq ?_
  refine hret _ _ _ ?_
  exact ⟨rfl,.inr (.inl ⟨rfl,by simpa using b4,b9,rfl⟩)⟩
 refine Al ?_
 apply k2
 refine w_q rfl rfl fun K11 k11=>?_
 refine l_v (Ah (v:=(.map (some r))) rfl) ?_
 refine l_v (Ah (v:=(.string (s))) rfl) ?_
 refine Cx rfl (Afq (i:=i) (kt:=9) (et:=4) (k:=s) (pr:=pr) Tryz.underlying270 Tryz.underlying9 hs b9 rfl rfl rfl hi fun es12 ck12 S12=>?_)
 refine Arx rfl rfl k11 fun K13 k13=>?_
 refine l_v (Cp (v:=(iV (0))) rfl) ?_
 refine l_k k13 ?_
 refine Aq ?_
 refine hret _ _ _ ?_
 exact ⟨rfl,.inr (.inr ⟨rfl,by simpa using b4,b9,_,_,S12,rfl⟩)⟩
set_option maxRecDepth 100000 in
theorem L3v {mn:Bool} {X:Frame→List Frame→Ro→Own→Cy→Prop} {ρ:Ro} {σ:Own} {l:List GPoint} {vl:Value} (rl:Val ρ vl l):CallsH (CX mn X) 146 #[vl] ρ σ (fun w ρ' σ'=>ρ' = ρ∧σ' = σ∧w = (iV (L0h l))):=by
 refine Bh (n:=40) (args:=[vl]) [2] Tryz.func146 rfl rfl rfl rfl fun Q hret hnor=>?_
 refine w_q rfl rfl fun K1 k1=>?_
 refine l_v (Cp (v:=(iV (0))) rfl) ?_
 refine Ary rfl rfl k1 fun K2 K3 k2 k3=>?_
 refine l_v (Ah (v:=vl) rfl) ?_
 have g4:=Val.len rl
 refine l_v (Ci (el:=227) Tryz.underlying37 rfl rl) ?_
 refine Arv (Bm (L1b) Tryz.func144 rfl rfl ⟨rfl,rfl,rfl,trivial⟩ ?_)
 refine l_v (Iy rfl) ?_
 refine l_k k3 ?_
 refine As (t:=!(inR (((l.length:Nat):Int)) 1 6)) rfl (fun b5=>?_) (fun b5=>?_)
 ·have b6:=not_eq_t b5
  have q6:=Tr.1 b6
  refine w_q rfl rfl fun K7 k7=>?_
  refine l_v (Cp (v:=(iV (2))) rfl) ?_
  refine l_k k7 ?_
  refine Aq ?_
  refine hret _ _ _ ⟨rfl,rfl,Eq.trans (b:=(iV (2))) rfl ?_⟩
  simp only [L0h,b5,b6,Bool.false_eq_true,if_false]
 have b8:=not_eq_f b5
 have q8:=Fz.1 b8
 refine Al ?_
 apply k2
 refine Asb rfl rfl fun K9 K10 k9 k10=>?_
 refine l_v (Ah (v:=vl) rfl) ?_
 have g11:=Val.len rl
 refine l_v (Ci (el:=227) Tryz.underlying37 rfl rl) ?_
 refine l_v (Ah (v:=(iV (0))) rfl) ?_
 refine l_k k10 ?_
 refine Ao ?_
 refine Cc (fun mm ee dd ρ' σ'=>∃ (q:Nat),(l.length - q) = mm∧[] = dd∧ρ = ρ'∧σ = σ'∧ee 0 = vl∧ee 9 = vl∧ee 10 = (iV (((l.length:Nat):Int)))∧ee 11 = (iV ((q:Int)))∧(q ≤ l.length)∧(∀ j,j < q→L1s l j = 0)∧True) (m:=_) ⟨0,rfl,rfl,rfl,rfl,rfl,rfl,rfl,rfl,(Nat.zero_le _),(fun j h=>absurd h (Nat.not_lt_zero _)),trivial⟩ ?_
 rintro m12 e12 _ _ _ ⟨q,rfl,rfl,rfl,rfl,h12_0,h12_9,h12_10,h12_11,p12_0,p12_1,_⟩
 refine w_q rfl rfl fun K13 k13=>?_
 refine l_v (Da h12_11 h12_10) ?_
 refine Asa k13 fun K14 k14=>?_
 refine As (t:=decide ((q:Int) < ((l.length:Nat):Int))) rfl (fun b15=>?_) (fun b15=>?_)
 ·have q15:=of_decide_eq_true b15
  refine Al ?_
  apply k14
  refine Ai fun K16 k16=>?_
  refine Ao ?_
  refine w_q rfl rfl fun K17 k17=>?_
  refine l_v (Ah (v:=(iV ((q:Int)))) h12_11) ?_
  obtain ⟨a19,ha19⟩:=Ed (xs:=l) (i:=q) (by omega)
  refine Arw (Ch q Tryz.underlying37 L0t h12_9 rl (q:=(q:Int)) h12_11 rfl ha19) fun v18 r18=>?_
  refine Arw (Ax L0t rfl r18) fun v20 r20=>?_
  refine Arv (Ct L3t fun k21=>?_)
  refine l_v (Cp (v:=(iV ((q:Int)))) rfl) ?_
  refine Cx rfl (Dv (v:=v20) (a:=a19) (c:=L3s) L0t rfl rfl r20 rfl ?_)
  refine Bb (a:=a19) r20 fun ρ22 l22 r22=>?_
  replace rl:=Asj l22 rl
  refine Ary rfl rfl k17 fun K23 K24 k23 k24=>?_
  refine Arw (Ay GPoint.f_read Tryz.underlying227 rfl rfl ty3 (by decide) rfl r22) fun v25 r25=>?_
  have ⟨g26a,g26b⟩:=At.rng r25
  refine l_v (Bc ty3 rfl r25) ?_
  refine Arv (Bm (L1b) Tryz.func144 rfl rfl ⟨rfl,rfl,rfl,trivial⟩ ?_)
  refine l_v (Iy rfl) ?_
  refine l_v (Ah (v:=(.bool (!(inR a19.read 0 1000)))) rfl) ?_
  refine Cn (!(inR a19.read 0 1000)) (fun b27=>?_) (fun b27=>?_)
  ·have b28:=not_eq_t b27
   have q28:=Tr.1 b28
   refine Ap (Bl rfl rfl rfl b27) ?_
   refine Ap (Bl rfl rfl rfl b27) ?_
   refine Ap (Bl rfl rfl rfl b27) ?_
   refine Ap (Bl rfl rfl rfl b27) ?_
   refine l_v (Bt rfl b27 (v:=(.bool (true))) rfl) ?_
   refine l_k k24 ?_
   refine Co rfl rfl ?_
   refine w_q rfl rfl fun K29 k29=>?_
   refine l_v (Cp (v:=(iV (1))) rfl) ?_
   refine l_k k29 ?_
   refine Aj (Asf l22) ?_
   refine Aq ?_
   refine hret _ _ _ ⟨rfl,rfl,Eq.trans (b:=(iV (1))) rfl ?_⟩
   have hf:L1s l q = 1:=by simp [L1s,ha19,b5,b8,b15,b27,b28,q8,q15,q28]
   simp only [L0h,b5,b8,b15,b27,b28,if_true]
   rw [Db p12_1 (by omega) hf (by omega)]
  have b30:=not_eq_f b27
  have q30:=Fz.1 b30
  refine Ak (Ar rfl rfl rfl b27) (Ay GPoint.f_value Tryz.underlying227 rfl rfl ty3 (by decide) rfl r22) fun v31 r31=>?_
  have ⟨g32a,g32b⟩:=At.rng r31
  refine Aa (Ar rfl rfl rfl b27) (Bc ty3 rfl r31) ?_
  refine Ae (Ar rfl rfl rfl b27) (Bm (L1b) Tryz.func144 rfl rfl ⟨rfl,rfl,rfl,trivial⟩ ?_)
  refine Aa (Ar rfl rfl rfl b27) (Iy rfl) ?_
  refine l_v (Bn rfl b27 (v:=(.bool (!(inR a19.value ((-10000)) 10000)))) rfl) ?_
  refine l_k k24 ?_
  refine As (t:=!(inR a19.value ((-10000)) 10000)) rfl (fun b33=>?_) (fun b33=>?_)
  ·have b34:=not_eq_t b33
   have q34:=Tr.1 b34
   refine w_q rfl rfl fun K35 k35=>?_
   refine l_v (Cp (v:=(iV (1))) rfl) ?_
   refine l_k k35 ?_
   refine Aj (Asf l22) ?_
   refine Aq ?_
   refine hret _ _ _ ⟨rfl,rfl,Eq.trans (b:=(iV (1))) rfl ?_⟩
   have hf:L1s l q = 1:=by simp [L1s,ha19,b5,b8,b15,b27,b30,b33,b34,q8,q15,q30,q34]
   simp only [L0h,b5,b8,b15,b27,b30,b33,b34,if_true]
   rw [Db p12_1 (by omega) hf (by omega)]
  have b36:=not_eq_f b33
  have q36:=Fz.1 b36
  refine Al ?_
  apply k23
  refine Ai fun K37 k37=>?_
  refine Dc [0,1,2,3,4,5,6,7,8,9,10,11,12] (by kernel_rfl) rfl rfl ?_
  refine Bg (i:=0) [o1,o0,o0,o0,o0,o0,o0,o0,o0,o0,o0,o0,o0] rfl (by kernel_rfl) rfl Ash rfl (Ah (v:=(iV ((q:Int)))) rfl) ?_
  refine Bg (i:=1) [o1,o1,o0,o0,o0,o0,o0,o0,o0,o0,o0,o0,o0] rfl (by kernel_rfl) rfl Ash rfl (Gl rfl rfl) ?_
  refine Bg (i:=2) [o1,o1,o1,o0,o0,o0,o0,o0,o0,o0,o0,o0,o0] rfl (by kernel_rfl) rfl Ash rfl (Ah (v:=(.bool (decide ((q:Int) > 0)))) rfl) ?_
  refine Akk (decide ((q:Int) > 0)) (fun b38=>?_) (fun b38=>?_)
  ·have q38:=of_decide_eq_true b38
   refine Cd (i:=3) [o1,o1,o1,o1,o0,o0,o0,o0,o0,o0,o0,o0,o0] rfl (by kernel_rfl) rfl Ash (Ar rfl rfl rfl b38) (Ay GPoint.f_read Tryz.underlying227 rfl rfl ty3 (by decide) rfl r22) fun v39 r39=>?_
   have ⟨g40a,g40b⟩:=At.rng r39
   refine Bd (i:=4) [o1,o1,o1,o1,o1,o0,o0,o0,o0,o0,o0,o0,o0] rfl (by kernel_rfl) rfl Ash (Ar rfl rfl rfl b38) (Bc ty3 rfl r39) ?_
   refine Bd (i:=5) [o1,o1,o1,o1,o1,o1,o0,o0,o0,o0,o0,o0,o0] rfl (by kernel_rfl) rfl Ash (Ar rfl rfl rfl b38) (Ah (v:=vl) h12_0) ?_
   refine Bg (i:=6) [o1,o1,o1,o1,o1,o1,o1,o0,o0,o0,o0,o0,o0] rfl (by kernel_rfl) rfl Ash (Ar rfl rfl rfl b38) (Ah (v:=(iV ((q:Int)))) rfl) ?_
   refine Bg (i:=7) [o1,o1,o1,o1,o1,o1,o1,o1,o0,o0,o0,o0,o0] rfl (by kernel_rfl) rfl Ash (Ar rfl rfl rfl b38) (Ou rfl rfl (z:=((q:Int) - 1)) (Bo (by first | rfl | omega | (push_cast; rfl)) (by omega) (by omega))) ?_
   obtain ⟨a42,ha42⟩:=Ed (xs:=l) (i:=(((q:Int) - 1)).toNat) (by omega)
   refine Hk (i:=8) [o1,o1,o1,o1,o1,o1,o1,o1,o1,o0,o0,o0,o0] rfl (by kernel_rfl) rfl Ash (Ar rfl rfl rfl b38) (Ch ((((q:Int) - 1)).toNat) Tryz.underlying37 L0t rfl rl (q:=((q:Int) - 1)) rfl (by omega) ha42) fun v41 r41=>?_
   refine Hk (i:=9) [o1,o1,o1,o1,o1,o1,o1,o1,o1,o1,o0,o0,o0] rfl (by kernel_rfl) rfl Ash (Ar rfl rfl rfl b38) (Ay GPoint.f_read Tryz.underlying227 rfl rfl ty3 (by decide) rfl r41) fun v43 r43=>?_
   have ⟨g44a,g44b⟩:=At.rng r43
   refine Bg (i:=10) [o1,o1,o1,o1,o1,o1,o1,o1,o1,o1,o1,o0,o0] rfl (by kernel_rfl) rfl Ash (Ar rfl rfl rfl b38) (Bc ty3 rfl r43) ?_
   refine Bg (i:=11) [o1,o1,o1,o1,o1,o1,o1,o1,o1,o1,o1,o1,o0] rfl (by kernel_rfl) rfl Ash (Ar rfl rfl rfl b38) (Uz rfl rfl) ?_
   refine Bg (i:=12) [o1,o1,o1,o1,o1,o1,o1,o1,o1,o1,o1,o1,o1] rfl (by kernel_rfl) rfl Ash rfl (Bt rfl b38 (v:=(.bool (decide (a19.read ≤ a42.read)))) rfl) ?_
   refine Ec rfl ?_
   apply k37
   refine As (t:=decide (a19.read ≤ a42.read)) rfl (fun b45=>?_) (fun b45=>?_)
   ·have q45:=of_decide_eq_true b45
    refine w_q rfl rfl fun K46 k46=>?_
    refine l_v (Cp (v:=(iV (7))) rfl) ?_
    refine l_k k46 ?_
    refine Aj (Asf l22) ?_
    refine Aq ?_
    refine hret _ _ _ ⟨rfl,rfl,Eq.trans (b:=(iV (7))) rfl ?_⟩
    have hf:L1s l q = 7:=by
     have hpr:(if 0 < q then l[q - 1]? else none) = some a42:=by rw [if_pos (by omega),← ha42]; congr 1; omega
     simp only [L1s,ha19,hpr,b5,b8,b15,b27,b30,b33,b36,b38,b45,Bool.true_and,Bool.false_and,Bool.and_true,Bool.and_false,Bool.true_or,Bool.false_or,Bool.or_true,Bool.or_false,Bool.not_true,Bool.not_false,if_true]
     exact if_pos (by omega)
    simp only [L0h,b5,b8,b15,b27,b30,b33,b36,b38,b45,if_true]
    rw [Db p12_1 (by omega) hf (by omega)]
   have q45:=of_decide_eq_false b45
   refine Al ?_
   apply k16
   refine Ag rfl rfl ?_
   refine l_v (Br h12_11 rfl (z:=(((q + 1):Nat):Int)) (Bo (by first | rfl | omega | (push_cast; rfl)) (by omega) (by omega))) ?_
   refine l_v (Ah (v:=(iV ((((q + 1):Nat):Int)))) rfl) ?_
   refine Bj (Asf l22) ?_
   apply Ac
   refine ⟨_,?_,((q + 1)),rfl,rfl,rfl,rfl,h12_0,h12_9,h12_10,rfl,(by omega),(Eg p12_1 (by
 have hpr:(if 0 < q then l[q - 1]? else none) = some a42:=by rw [if_pos (by omega),← ha42]; congr 1; omega
 simp only [L1s,ha19,hpr,b5,b8,b15,b27,b30,b33,b36,b38,b45,Bool.true_and,Bool.false_and,Bool.and_true,Bool.and_false,Bool.true_or,Bool.false_or,Bool.or_true,Bool.or_false,Bool.not_true,Bool.not_false,if_true]
 exact if_neg (by omega))),trivial⟩
   omega
  have q38:=of_decide_eq_false b38
  refine Sw (i:=3) [o1,o1,o1,o1,o0,o0,o0,o0,o0,o0,o0,o0,o0] rfl (by kernel_rfl) rfl Ash (Bl rfl rfl rfl b38) ?_
  refine Sw (i:=4) [o1,o1,o1,o1,o1,o0,o0,o0,o0,o0,o0,o0,o0] rfl (by kernel_rfl) rfl Ash (Bl rfl rfl rfl b38) ?_
  refine Sw (i:=5) [o1,o1,o1,o1,o1,o1,o0,o0,o0,o0,o0,o0,o0] rfl (by kernel_rfl) rfl Ash (Bl rfl rfl rfl b38) ?_
  refine Wv (i:=6) [o1,o1,o1,o1,o1,o1,o1,o0,o0,o0,o0,o0,o0] rfl (by kernel_rfl) rfl Ash (Bl rfl rfl rfl b38) ?_
  refine Wv (i:=7) [o1,o1,o1,o1,o1,o1,o1,o1,o0,o0,o0,o0,o0] rfl (by kernel_rfl) rfl Ash (Bl rfl rfl rfl b38) ?_
  refine Wv (i:=8) [o1,o1,o1,o1,o1,o1,o1,o1,o1,o0,o0,o0,o0] rfl (by kernel_rfl) rfl Ash (Bl rfl rfl rfl b38) ?_
  refine Wv (i:=9) [o1,o1,o1,o1,o1,o1,o1,o1,o1,o1,o0,o0,o0] rfl (by kernel_rfl) rfl Ash (Bl rfl rfl rfl b38) ?_
  refine Wv (i:=10) [o1,o1,o1,o1,o1,o1,o1,o1,o1,o1,o1,o0,o0] rfl (by kernel_rfl) rfl Ash (Bl rfl rfl rfl b38) ?_
  refine Wv (i:=11) [o1,o1,o1,o1,o1,o1,o1,o1,o1,o1,o1,o1,o0] rfl (by kernel_rfl) rfl Ash (Bl rfl rfl rfl b38) ?_
  refine Bg (i:=12) [o1,o1,o1,o1,o1,o1,o1,o1,o1,o1,o1,o1,o1] rfl (by kernel_rfl) rfl Ash rfl (Bn rfl b38 (v:=(.bool (false))) rfl) ?_
  refine Ec rfl ?_
  apply k37
  refine Cg rfl rfl ?_
  refine Al ?_
  apply k16
  refine Ag rfl rfl ?_
  refine l_v (Br h12_11 rfl (z:=(((q + 1):Nat):Int)) (Bo (by first | rfl | omega | (push_cast; rfl)) (by omega) (by omega))) ?_
  refine l_v (Ah (v:=(iV ((((q + 1):Nat):Int)))) rfl) ?_
  refine Bj (Asf l22) ?_
  apply Ac
  refine ⟨_,?_,((q + 1)),rfl,rfl,rfl,rfl,h12_0,h12_9,h12_10,rfl,(by omega),(Eg p12_1 (by
 have hpr:(if 0 < q then l[q - 1]? else none) = none:=if_neg (by omega)
 simp only [L1s,ha19,hpr,b5,b8,b15,b27,b30,b33,b36,b38,Bool.true_and,Bool.false_and,Bool.and_true,Bool.and_false,Bool.true_or,Bool.false_or,Bool.or_true,Bool.or_false,Bool.not_true,Bool.not_false,if_true])),trivial⟩
  omega
 have q15:=of_decide_eq_false b15
 refine Bx ?_
 apply k9
 refine w_q rfl rfl fun K47 k47=>?_
 refine l_v (Cp (v:=(iV (0))) rfl) ?_
 refine l_k k47 ?_
 refine Aq ?_
 refine hret _ _ _ ⟨rfl,rfl,Eq.trans (b:=(iV (0))) rfl ?_⟩
 simp only [L0h,b5,b8,b15,if_true]
 rw [Fb fun j hj=>p12_1 j (by omega)]
set_option maxRecDepth 100000 in
theorem L6e {mn:Bool} {X:Frame→List Frame→Ro→Own→Cy→Prop} {ρ:Ro} {σ:Own} {x:Span} {vx:Value} (rx:Val ρ vx x):CallsH (CX mn X) 176 #[vx] ρ σ (fun w ρ' σ'=>ρ' = ρ∧σ' = σ∧w = (.bool (Ef x (-10000) 10000))):=by
 refine Bh (n:=5) (args:=[vx]) [2] Tryz.func176 rfl rfl rfl rfl fun Q hret hnor=>?_
 refine w_q rfl rfl fun K1 k1=>?_
 refine Arv (Eb (v:=vx) rfl fun k2=>?_)
 refine Bb (a:=x) rx fun ρ2 l2 r2=>?_
 refine l_v (Cp (v:=(.bool (false))) rfl) ?_
 refine Arx rfl rfl k1 fun K3 k3=>?_
 refine Arw (Ax Mx rfl r2) fun v4 r4=>?_
 refine Arv (Bm (L3z r4) Tryz.func105 rfl rfl ⟨rfl,rfl,rfl,trivial⟩ ?_)
 refine l_v (Cp (v:=(.bool (Ef x ((-10000)) 10000))) rfl) ?_
 refine l_k k3 ?_
 refine Aj (Asf l2) ?_
 refine Aq ?_
 refine hret _ _ _ ⟨rfl,rfl,Eq.trans (b:=(.bool (Ef x ((-10000)) 10000))) rfl ?_⟩
 rfl
set_option maxRecDepth 100000 in
theorem L3w {mn:Bool} {X:Frame→List Frame→Ro→Own→Cy→Prop} {ρ:Ro} {σ:Own} {r:GRule} {vr:Value} {l:List Span} {vl:Value} (rr:Val ρ vr r) (rl:Val ρ vl l):CallsH (CX mn X) 147 #[vr,vl] ρ σ (fun w ρ' σ'=>ρ' = ρ∧σ' = σ∧w = (iV (L0r (r.measures.length:Int) l))):=by
 refine Bh (n:=23) (args:=[vr,vl]) [4] Tryz.func147 rfl rfl rfl rfl fun Q hret hnor=>?_
 refine w_q rfl rfl fun K1 k1=>?_
 refine Arv (Eb (v:=vr) rfl fun k2=>?_)
 refine Bb (a:=r) rr fun ρ2 l2 r2=>?_
 replace rl:=Asj l2 rl
 refine l_v (Cp (v:=(iV (0))) rfl) ?_
 refine Ary rfl rfl k1 fun K3 K4 k3 k4=>?_
 refine l_v (Ah (v:=vl) rfl) ?_
 have g5:=Val.len rl
 refine l_v (Ci (el:=41) Tryz.underlying26 rfl rl) ?_
 refine Arw (Ay GRule.f_measures Tryz.underlying25 rfl rfl L0g (by decide) rfl r2) fun v6 r6=>?_
 refine Arw (Ax L0g rfl r6) fun v7 r7=>?_
 have g8:=Val.len r7
 refine l_v (Ci (el:=39) Tryz.underlying22 rfl r7) ?_
 refine l_v (Dg rfl rfl) ?_
 refine l_k k4 ?_
 refine As (t:=((l.length:Nat):Int) != ((r.measures.length:Nat):Int)) rfl (fun b9=>?_) (fun b9=>?_)
 ·have q9:=Ls b9
  refine w_q rfl rfl fun K10 k10=>?_
  refine l_v (Cp (v:=(iV (2))) rfl) ?_
  refine l_k k10 ?_
  refine Aj (Asf l2) ?_
  refine Aq ?_
  refine hret _ _ _ ⟨rfl,rfl,Eq.trans (b:=(iV (2))) rfl ?_⟩
  rw [L0r,if_neg (by omega)]
 have q9:=Jh b9
 refine Al ?_
 apply k3
 refine Asb rfl rfl fun K11 K12 k11 k12=>?_
 refine l_v (Ah (v:=vl) rfl) ?_
 have g13:=Val.len rl
 refine l_v (Ci (el:=41) Tryz.underlying26 rfl rl) ?_
 refine l_v (Ah (v:=(iV (0))) rfl) ?_
 refine l_k k12 ?_
 refine Ao ?_
 refine Cc (fun mm ee dd ρ' σ'=>∃ (q:Nat),(l.length - q) = mm∧[] = dd∧ρ2 = ρ'∧σ = σ'∧ee 13 = vl∧ee 14 = (iV (((l.length:Nat):Int)))∧ee 15 = (iV ((q:Int)))∧(q ≤ l.length)∧(∀ j,j < q→L3p l j = 0)∧True) (m:=_) ⟨0,rfl,rfl,rfl,rfl,rfl,rfl,rfl,(Nat.zero_le _),(fun j h=>absurd h (Nat.not_lt_zero _)),trivial⟩ ?_
 rintro m14 e14 _ _ _ ⟨q,rfl,rfl,rfl,rfl,h14_13,h14_14,h14_15,p14_0,p14_1,_⟩
 refine w_q rfl rfl fun K15 k15=>?_
 refine l_v (Da h14_15 h14_14) ?_
 refine Asa k15 fun K16 k16=>?_
 refine As (t:=decide ((q:Int) < ((l.length:Nat):Int))) rfl (fun b17=>?_) (fun b17=>?_)
 ·have q17:=of_decide_eq_true b17
  refine Al ?_
  apply k16
  refine Ai fun K18 k18=>?_
  refine Ao ?_
  refine w_q rfl rfl fun K19 k19=>?_
  obtain ⟨a21,ha21⟩:=Ed (xs:=l) (i:=q) (by omega)
  refine Arw (Ch q Tryz.underlying26 Mx h14_13 rl (q:=(q:Int)) h14_15 rfl ha21) fun v20 r20=>?_
  refine Arw (Ax Mx rfl r20) fun v22 r22=>?_
  refine Arv (Ct Aak fun k23=>?_)
  refine Cx rfl (Dv (v:=v22) (a:=a21) (c:=Arm) Mx rfl rfl r22 rfl ?_)
  refine Bb (a:=a21) r22 fun ρ24 l24 r24=>?_
  refine Arx rfl rfl k19 fun K25 k25=>?_
  refine Arw (Ax Mx rfl r24) fun v26 r26=>?_
  refine Arv (Bm (L6e r26) Tryz.func176 rfl rfl ⟨rfl,trivial⟩ ?_)
  refine l_v (Iy rfl) ?_
  refine l_k k25 ?_
  refine As (t:=!(Ef a21 (-10000) 10000)) rfl (fun b27=>?_) (fun b27=>?_)
  ·have b28:=not_eq_t b27
   refine w_q rfl rfl fun K29 k29=>?_
   refine l_v (Cp (v:=(iV (1))) rfl) ?_
   refine l_k k29 ?_
   refine Aj (Asf (Asi l2 l24)) ?_
   refine Aq ?_
   refine hret _ _ _ ⟨rfl,rfl,Eq.trans (b:=(iV (1))) rfl ?_⟩
   rw [L0r,if_pos (by omega),Db (v:=1) p14_1 (by omega) (by simp [L3p,ha21,b9,b17,b27,b28,q9,q17]) (by omega)]
  have b30:=not_eq_f b27
  refine Al ?_
  apply k18
  refine Ag rfl rfl ?_
  refine l_v (Br h14_15 rfl (z:=(((q + 1):Nat):Int)) (Bo (by first | rfl | omega | (push_cast; rfl)) (by omega) (by omega))) ?_
  refine l_v (Ah (v:=(iV ((((q + 1):Nat):Int)))) rfl) ?_
  refine Bj (Asf l24) ?_
  apply Ac
  refine ⟨_,?_,((q + 1)),rfl,rfl,rfl,rfl,h14_13,h14_14,rfl,(by omega),(Eg p14_1 (by simp [L3p,ha21,b9,b17,b27,b30,q9,q17])),trivial⟩
  omega
 have q17:=of_decide_eq_false b17
 refine Bx ?_
 apply k11
 refine w_q rfl rfl fun K31 k31=>?_
 refine l_v (Cp (v:=(iV (0))) rfl) ?_
 refine l_k k31 ?_
 refine Aj (Asf l2) ?_
 refine Aq ?_
 refine hret _ _ _ ⟨rfl,rfl,Eq.trans (b:=(iV (0))) rfl ?_⟩
 rw [L0r,if_pos (by omega),Fb fun j hj=>p14_1 j (by omega)]
set_option maxRecDepth 100000 in
theorem L7j {mn:Bool} {X:Frame→List Frame→Ro→Own→Cy→Prop} {ρ:Ro} {σ:Own} {r:GRule} {vr:Value} (rr:Val ρ vr r):CallsH (CX mn X) 102 #[vr] ρ σ (fun w ρ' σ'=>ρ' = ρ∧σ' = σ∧w = (iV (L0q r))):=by
 refine Bh (n:=70) (args:=[vr]) [2] Tryz.func102 rfl rfl rfl rfl fun Q hret hnor=>?_
 refine w_q rfl rfl fun K1 k1=>?_
 refine Arv (Eb (v:=vr) rfl fun k2=>?_)
 refine Bb (a:=r) rr fun ρ2 l2 r2=>?_
 refine l_v (Cp (v:=(iV (0))) rfl) ?_
 refine Ary rfl rfl k1 fun K3 K4 k3 k4=>?_
 refine Arw (Ay GRule.f_measures Tryz.underlying25 rfl rfl L0g (by decide) rfl r2) fun v5 r5=>?_
 refine Arw (Ax L0g rfl r5) fun v6 r6=>?_
 have g7:=Val.len r6
 refine l_v (Ci (el:=39) Tryz.underlying22 rfl r6) ?_
 refine Arv (Bm (L1b) Tryz.func144 rfl rfl ⟨rfl,rfl,rfl,trivial⟩ ?_)
 refine l_v (Iy rfl) ?_
 refine l_k k4 ?_
 refine As (t:=!(inR (((r.measures.length:Nat):Int)) 1 6)) rfl (fun b8=>?_) (fun b8=>?_)
 ·have b9:=not_eq_t b8
  have q9:=Tr.1 b9
  refine w_q rfl rfl fun K10 k10=>?_
  refine l_v (Cp (v:=(iV (2))) rfl) ?_
  refine l_k k10 ?_
  refine Aj (Asf l2) ?_
  refine Aq ?_
  refine hret _ _ _ ⟨rfl,rfl,Eq.trans (b:=(iV (2))) rfl ?_⟩
  simp only [L0q,b8,b9,Bool.false_eq_true,if_false]
 have b11:=not_eq_f b8
 have q11:=Fz.1 b11
 refine Al ?_
 apply k3
 refine w_q rfl rfl fun K12 k12=>?_
 refine Arv (Oh fun k13=>?_)
 refine l_v (Cp (v:=(.map (some k13))) rfl) ?_
 refine Ary rfl rfl k12 fun K14 K15 k14 k15=>?_
 refine Arw (Ay GRule.f_measures Tryz.underlying25 rfl rfl L0g (by decide) rfl r2) fun v16 r16=>?_
 refine Arw (Ax L0g rfl r16) fun v17 r17=>?_
 have g18:=Val.len r17
 refine l_v (Ci (el:=39) Tryz.underlying22 rfl r17) ?_
 refine l_v (Ah (v:=(iV (0))) rfl) ?_
 refine l_k k15 ?_
 refine Ao ?_
 refine Cc (fun mm ee dd ρ' σ'=>∃ (i:Nat) (es19_3:Array MapEntry) (ck19_3:Nat),(r.measures.length - i) = mm∧[] = dd∧ρ2 = ρ'∧((k13,Res.obj (Obj.map es19_3 ck19_3)) :: σ) = σ'∧ee 1 = (.pointer (some ⟨k2,0,none⟩))∧ee 19 = v17∧ee 20 = (iV (((r.measures.length:Nat):Int)))∧ee 3 = (.map (some k13))∧ee 21 = (iV ((i:Int)))∧(i ≤ r.measures.length)∧(∀ j,j < i→L0p r j = 0)∧Mu es19_3 (inL ((r.measures.map Meas.name).take i))∧True) (m:=_) ⟨0,#[],0,rfl,rfl,rfl,rfl,rfl,rfl,rfl,rfl,rfl,(Nat.zero_le _),(fun j h=>absurd h (Nat.not_lt_zero _)),(Rl (fun k=>by simp [inL]) Uh),trivial⟩ ?_
 rintro m19 e19 _ _ _ ⟨i,es19_3,ck19_3,rfl,rfl,rfl,rfl,h19_1,h19_19,h19_20,h19_3,h19_21,p19_0,p19_1,MS19_3,_⟩
 refine w_q rfl rfl fun K20 k20=>?_
 refine l_v (Da h19_21 h19_20) ?_
 refine Asa k20 fun K21 k21=>?_
 refine As (t:=decide ((i:Int) < ((r.measures.length:Nat):Int))) rfl (fun b22=>?_) (fun b22=>?_)
 ·have q22:=of_decide_eq_true b22
  refine Al ?_
  apply k21
  refine Ai fun K23 k23=>?_
  refine Ao ?_
  refine w_q rfl rfl fun K24 k24=>?_
  obtain ⟨a26,ha26⟩:=Ed (xs:=r.measures) (i:=i) (by omega)
  refine Arw (Ch i Tryz.underlying22 L1f h19_19 r17 (q:=(i:Int)) h19_21 rfl ha26) fun v25 r25=>?_
  refine Arw (Ax L1f rfl r25) fun v27 r27=>?_
  refine Arv (Ct L5m fun k28=>?_)
  refine Cx rfl (Dv (v:=v27) (a:=a26) (c:=L5l) L1f rfl rfl r27 rfl ?_)
  refine Bb (a:=a26) r27 fun ρ29 l29 r29=>?_
  refine Ary rfl rfl k24 fun K30 K31 k30 k31=>?_
  refine l_v (Ah (v:=(.map (some k13))) h19_3) ?_
  refine Arw (Ay Meas.f_name Tryz.underlying39 rfl rfl ty9 (by decide) rfl r29) fun v32 r32=>?_
  have g33:=At.slen r32
  refine l_v (Pk ty9 rfl r32) ?_
  refine Arv (Cm (vs:=[(.map (some k13)),(.string (a26.name))]) (L4u (i:=0) MS19_3 rfl (by omega)) Tryz.func145 rfl rfl ⟨rfl,rfl,trivial⟩ fun w34 ρ34 σ34 hc34=>?_)
  obtain ⟨hr34,hc34⟩:=hc34
  replace hr34:=hr34.symm; subst hr34
  rcases hc34 with ⟨rfl,hn34,rfl⟩ | ⟨rfl,hn34,hp34,rfl⟩ | ⟨rfl,hn34,hp34,es34,ck34,S34,rfl⟩
  ·refine l_v (Cp (v:=(iV (4))) rfl) ?_
   refine Arx rfl rfl k31 fun K35 k35=>?_
   refine l_v (Ah (v:=(iV (4))) rfl) ?_
   refine l_v (Dg rfl rfl) ?_
   refine l_k k35 ?_
   refine Co rfl rfl ?_
   refine w_q rfl rfl fun K36 k36=>?_
   refine l_v (Ah (v:=(iV (4))) rfl) ?_
   refine l_v (Cp (v:=(iV (4))) rfl) ?_
   refine l_k k36 ?_
   refine Aj Ghost.drop ?_
   refine Aj (Asf (Asi l2 l29)) ?_
   refine Aq ?_
   refine hret _ _ _ ⟨rfl,rfl,Eq.trans (b:=(iV (4))) rfl ?_⟩
   rw [L0q,if_pos (Fz.2 q11)]
   have hf:L0p r i = 4:=by simp [L0p,ha26,hn34]
   rw [Db p19_1 (by omega) hf (by omega),Ry (by omega)]
  ·refine l_v (Cp (v:=(iV (5))) rfl) ?_
   refine Arx rfl rfl k31 fun K37 k37=>?_
   refine l_v (Ah (v:=(iV (5))) rfl) ?_
   refine l_v (Dg rfl rfl) ?_
   refine l_k k37 ?_
   refine Co rfl rfl ?_
   refine w_q rfl rfl fun K38 k38=>?_
   refine l_v (Ah (v:=(iV (5))) rfl) ?_
   refine l_v (Cp (v:=(iV (5))) rfl) ?_
   refine l_k k38 ?_
   refine Aj Ghost.drop ?_
   refine Aj (Asf (Asi l2 l29)) ?_
   refine Aq ?_
   refine hret _ _ _ ⟨rfl,rfl,Eq.trans (b:=(iV (5))) rfl ?_⟩
   rw [L0q,if_pos (Fz.2 q11)]
   have hf:L0p r i = 5:=by simp [L0p,ha26,hn34,L7r hp34]
   rw [Db p19_1 (by omega) hf (by omega),Ry (by omega)]
  refine l_v (Cp (v:=(iV (0))) rfl) ?_
  refine Arx rfl rfl k31 fun K39 k39=>?_
  refine l_v (Ah (v:=(iV (0))) rfl) ?_
  refine l_v (Dg rfl rfl) ?_
  refine l_k k39 ?_
  refine Cg rfl rfl ?_
  refine Al ?_
  apply k30
  refine w_q rfl rfl fun K40 k40=>?_
  refine Arw (Ay Meas.f_points Tryz.underlying39 rfl rfl L0j (by decide) rfl r29) fun v41 r41=>?_
  refine Arw (Ax L0j rfl r41) fun v42 r42=>?_
  refine Arv (Bm (L3v r42) Tryz.func146 rfl rfl ⟨rfl,trivial⟩ ?_)
  refine l_v (Cp (v:=(iV (L0h a26.points))) rfl) ?_
  refine Arx rfl rfl k40 fun K43 k43=>?_
  refine l_v (Ah (v:=(iV (L0h a26.points))) rfl) ?_
  refine l_v (Dg rfl rfl) ?_
  refine l_k k43 ?_
  refine As (t:=L0h a26.points != 0) rfl (fun b44=>?_) (fun b44=>?_)
  ·have q44:=Ls b44
   refine w_q rfl rfl fun K45 k45=>?_
   refine l_v (Ah (v:=(iV (L0h a26.points))) rfl) ?_
   refine l_v (Cp (v:=(iV (L0h a26.points))) rfl) ?_
   refine l_k k45 ?_
   refine Aj Ghost.drop ?_
   refine Aj (Asf (Asi l2 l29)) ?_
   refine Aq ?_
   refine hret _ _ _ ⟨rfl,rfl,Eq.trans (b:=(iV (L0h a26.points))) rfl ?_⟩
   rw [L0q,if_pos (Fz.2 q11)]
   have hf:L0p r i = L0h a26.points:=by simp only [L0p,ha26,hn34,L4z hp34,if_true,Bool.false_eq_true,if_false]
   rw [Db p19_1 (by omega) hf q44,Ry q44]
  have q44:=Jh b44
  refine Al ?_
  apply k23
  refine Ag rfl rfl ?_
  refine l_v (Br h19_21 rfl (z:=(((i + 1):Nat):Int)) (Bo (by first | rfl | omega | (push_cast; rfl)) (by omega) (by omega))) ?_
  refine l_v (Ah (v:=(iV ((((i + 1):Nat):Int)))) rfl) ?_
  refine Bj (Asf l29) ?_
  apply Ac
  refine ⟨_,?_,((i + 1)),es34,ck34,rfl,rfl,rfl,rfl,h19_1,h19_19,h19_20,h19_3,rfl,(by omega),(Eg p19_1 (by simp only [L0p,ha26,hn34,L4z hp34,if_true,Bool.false_eq_true,if_false]; exact q44)),(Rl (Tq (by rw [List.getElem?_map,ha26]; rfl)) S34),trivial⟩
  omega
 have q22:=of_decide_eq_false b22
 refine Bx ?_
 apply k14
 refine Asb rfl rfl fun K46 K47 k46 k47=>?_
 refine Arw (Ay GRule.f_grades Tryz.underlying25 rfl rfl L0s (by decide) h19_1 r2) fun v48 r48=>?_
 refine Arw (Ax L0s rfl r48) fun v49 r49=>?_
 have g50:=Val.len r49
 refine l_v (Ci (el:=100) Tryz.underlying23 rfl r49) ?_
 refine l_v (Gl rfl rfl) ?_
 refine l_k k47 ?_
 refine As (t:=decide (((r.grades.length:Nat):Int) > 5)) rfl (fun b51=>?_) (fun b51=>?_)
 ·have q51:=of_decide_eq_true b51
  refine w_q rfl rfl fun K52 k52=>?_
  refine l_v (Cp (v:=(iV (2))) rfl) ?_
  refine l_k k52 ?_
  refine Aj Ghost.drop ?_
  refine Aj (Asf l2) ?_
  refine Aq ?_
  refine hret _ _ _ ⟨rfl,rfl,Eq.trans (b:=(iV (2))) rfl ?_⟩
  rw [L0q,if_pos (Fz.2 q11)]
  rw [Fb fun j hj=>p19_1 j (by omega),Gr rfl]
  rw [if_pos (by omega)]
 have q51:=of_decide_eq_false b51
 refine Al ?_
 apply k46
 refine w_q rfl rfl fun K53 k53=>?_
 refine Arv (Oh fun k54=>?_)
 refine l_v (Cp (v:=(.map (some k54))) rfl) ?_
 refine Ary rfl rfl k53 fun K55 K56 k55 k56=>?_
 refine Arw (Ay GRule.f_grades Tryz.underlying25 rfl rfl L0s (by decide) h19_1 r2) fun v57 r57=>?_
 refine Arw (Ax L0s rfl r57) fun v58 r58=>?_
 have g59:=Val.len r58
 refine l_v (Ci (el:=100) Tryz.underlying23 rfl r58) ?_
 refine l_v (Ah (v:=(iV (0))) rfl) ?_
 refine l_k k56 ?_
 refine Ao ?_
 refine Cc (fun mm ee dd ρ' σ'=>∃ (g:Nat) (es60_3:Array MapEntry) (ck60_3:Nat),(r.grades.length - g) = mm∧[] = dd∧ρ2 = ρ'∧((k54,Res.obj (Obj.map es60_3 ck60_3)) :: ((k13,Res.obj (Obj.map es19_3 ck19_3)) :: σ)) = σ'∧ee 1 = (.pointer (some ⟨k2,0,none⟩))∧ee 45 = v58∧ee 46 = (iV (((r.grades.length:Nat):Int)))∧ee 3 = (.map (some k54))∧ee 47 = (iV ((g:Int)))∧(g ≤ r.grades.length)∧(∀ j,j < g→L0i r j = 0)∧Mu es60_3 (inL ((r.grades.map GGrade.name).take g))∧True) (m:=_) ⟨0,#[],0,rfl,rfl,rfl,rfl,h19_1,rfl,rfl,rfl,rfl,(Nat.zero_le _),(fun j h=>absurd h (Nat.not_lt_zero _)),(Rl (fun k=>by simp [inL]) Uh),trivial⟩ ?_
 rintro m60 e60 _ _ _ ⟨g,es60_3,ck60_3,rfl,rfl,rfl,rfl,h60_1,h60_45,h60_46,h60_3,h60_47,p60_0,p60_1,MS60_3,_⟩
 refine w_q rfl rfl fun K61 k61=>?_
 refine l_v (Da h60_47 h60_46) ?_
 refine Asa k61 fun K62 k62=>?_
 refine As (t:=decide ((g:Int) < ((r.grades.length:Nat):Int))) rfl (fun b63=>?_) (fun b63=>?_)
 ·have q63:=of_decide_eq_true b63
  refine Al ?_
  apply k62
  refine Ai fun K64 k64=>?_
  refine Ao ?_
  refine w_q rfl rfl fun K65 k65=>?_
  obtain ⟨a67,ha67⟩:=Ed (xs:=r.grades) (i:=g) (by omega)
  refine Arw (Ch g Tryz.underlying23 L1x h60_45 r58 (q:=(g:Int)) h60_47 rfl ha67) fun v66 r66=>?_
  refine Arw (Ax L1x rfl r66) fun v68 r68=>?_
  refine Arv (Ct L7i fun k69=>?_)
  refine Cx rfl (Dv (v:=v68) (a:=a67) (c:=L7g) L1x rfl rfl r68 rfl ?_)
  refine Bb (a:=a67) r68 fun ρ70 l70 r70=>?_
  replace r2:=At.mono l70 r2
  refine Ary rfl rfl k65 fun K71 K72 k71 k72=>?_
  refine l_v (Ah (v:=(.map (some k54))) h60_3) ?_
  refine Arw (Ay GGrade.f_name Tryz.underlying100 rfl rfl ty9 (by decide) rfl r70) fun v73 r73=>?_
  have g74:=At.slen r73
  refine l_v (Pk ty9 rfl r73) ?_
  refine Arv (Cm (vs:=[(.map (some k54)),(.string (a67.name))]) (L4u (i:=0) MS60_3 rfl (by omega)) Tryz.func145 rfl rfl ⟨rfl,rfl,trivial⟩ fun w75 ρ75 σ75 hc75=>?_)
  obtain ⟨hr75,hc75⟩:=hc75
  replace hr75:=hr75.symm; subst hr75
  rcases hc75 with ⟨rfl,hn75,rfl⟩ | ⟨rfl,hn75,hp75,rfl⟩ | ⟨rfl,hn75,hp75,es75,ck75,S75,rfl⟩
  ·refine l_v (Cp (v:=(iV (4))) rfl) ?_
   refine Arx rfl rfl k72 fun K76 k76=>?_
   refine l_v (Ah (v:=(iV (4))) rfl) ?_
   refine l_v (Dg rfl rfl) ?_
   refine l_k k76 ?_
   refine Co rfl rfl ?_
   refine w_q rfl rfl fun K77 k77=>?_
   refine l_v (Ah (v:=(iV (4))) rfl) ?_
   refine l_v (Cp (v:=(iV (4))) rfl) ?_
   refine l_k k77 ?_
   refine Aj Ghost.drop ?_
   refine Aj Ghost.drop ?_
   refine Aj (Asf (Asi l2 l70)) ?_
   refine Aq ?_
   refine hret _ _ _ ⟨rfl,rfl,Eq.trans (b:=(iV (4))) rfl ?_⟩
   rw [L0q,if_pos (Fz.2 q11)]
   rw [Fb fun j hj=>p19_1 j (by omega),Gr rfl]
   rw [if_neg (by omega)]
   have hf:L0i r g = 4:=by simp [L0i,ha67,hn75]
   rw [Db p60_1 (by omega) hf (by omega)]
  ·refine l_v (Cp (v:=(iV (5))) rfl) ?_
   refine Arx rfl rfl k72 fun K78 k78=>?_
   refine l_v (Ah (v:=(iV (5))) rfl) ?_
   refine l_v (Dg rfl rfl) ?_
   refine l_k k78 ?_
   refine Co rfl rfl ?_
   refine w_q rfl rfl fun K79 k79=>?_
   refine l_v (Ah (v:=(iV (5))) rfl) ?_
   refine l_v (Cp (v:=(iV (5))) rfl) ?_
   refine l_k k79 ?_
   refine Aj Ghost.drop ?_
   refine Aj Ghost.drop ?_
   refine Aj (Asf (Asi l2 l70)) ?_
   refine Aq ?_
   refine hret _ _ _ ⟨rfl,rfl,Eq.trans (b:=(iV (5))) rfl ?_⟩
   rw [L0q,if_pos (Fz.2 q11)]
   rw [Fb fun j hj=>p19_1 j (by omega),Gr rfl]
   rw [if_neg (by omega)]
   have hf:L0i r g = 5:=by simp [L0i,ha67,hn75,L6u hp75]
   rw [Db p60_1 (by omega) hf (by omega)]
  refine l_v (Cp (v:=(iV (0))) rfl) ?_
  refine Arx rfl rfl k72 fun K80 k80=>?_
  refine l_v (Ah (v:=(iV (0))) rfl) ?_
  refine l_v (Dg rfl rfl) ?_
  refine l_k k80 ?_
  refine Cg rfl rfl ?_
  refine Al ?_
  apply k71
  refine Asb rfl rfl fun K81 K82 k81 k82=>?_
  refine Arw (Ax L1e h60_1 r2) fun v83 r83=>?_
  refine Arw (Ay GGrade.f_limits Tryz.underlying100 rfl rfl Uo (by decide) rfl r70) fun v84 r84=>?_
  refine Arw (Ax Uo rfl r84) fun v85 r85=>?_
  refine Arv (Bm (L3w r83 r85) Tryz.func147 rfl rfl ⟨rfl,rfl,trivial⟩ ?_)
  refine l_v (Cp (v:=(iV (L0r (r.measures.length:Int) a67.limits))) rfl) ?_
  refine Arx rfl rfl k82 fun K86 k86=>?_
  refine l_v (Ah (v:=(iV (L0r (r.measures.length:Int) a67.limits))) rfl) ?_
  refine l_v (Dg rfl rfl) ?_
  refine l_k k86 ?_
  refine As (t:=L0r (r.measures.length:Int) a67.limits != 0) rfl (fun b87=>?_) (fun b87=>?_)
  ·have q87:=Ls b87
   refine w_q rfl rfl fun K88 k88=>?_
   refine l_v (Ah (v:=(iV (L0r (r.measures.length:Int) a67.limits))) rfl) ?_
   refine l_v (Cp (v:=(iV (L0r (r.measures.length:Int) a67.limits))) rfl) ?_
   refine l_k k88 ?_
   refine Aj Ghost.drop ?_
   refine Aj Ghost.drop ?_
   refine Aj (Asf (Asi l2 l70)) ?_
   refine Aq ?_
   refine hret _ _ _ ⟨rfl,rfl,Eq.trans (b:=(iV (L0r (r.measures.length:Int) a67.limits))) rfl ?_⟩
   rw [L0q,if_pos (Fz.2 q11)]
   rw [Fb fun j hj=>p19_1 j (by omega),Gr rfl]
   rw [if_neg (by omega)]
   have hf:L0i r g = L0r (r.measures.length:Int) a67.limits:=by
    simp only [L0i,ha67,hn75,L2s hp75,if_true,Bool.false_eq_true,if_false]
    exact Ry q87
   rw [Db p60_1 (by omega) hf q87]
  have q87:=Jh b87
  refine Al ?_
  apply k81
  refine w_q rfl rfl fun K89 k89=>?_
  refine Arw (Ay GGrade.f_worth Tryz.underlying100 rfl rfl ty3 (by decide) rfl r70) fun v90 r90=>?_
  have ⟨g91a,g91b⟩:=At.rng r90
  refine l_v (Bc ty3 rfl r90) ?_
  refine Arv (Bm (L1b) Tryz.func144 rfl rfl ⟨rfl,rfl,rfl,trivial⟩ ?_)
  refine l_v (Iy rfl) ?_
  refine l_k k89 ?_
  refine As (t:=!(inR a67.worth 0 1000)) rfl (fun b92=>?_) (fun b92=>?_)
  ·have b93:=not_eq_t b92
   have q93:=Tr.1 b93
   refine w_q rfl rfl fun K94 k94=>?_
   refine l_v (Cp (v:=(iV (1))) rfl) ?_
   refine l_k k94 ?_
   refine Aj Ghost.drop ?_
   refine Aj Ghost.drop ?_
   refine Aj (Asf (Asi l2 l70)) ?_
   refine Aq ?_
   refine hret _ _ _ ⟨rfl,rfl,Eq.trans (b:=(iV (1))) rfl ?_⟩
   rw [L0q,if_pos (Fz.2 q11)]
   rw [Fb fun j hj=>p19_1 j (by omega),Gr rfl]
   rw [if_neg (by omega)]
   have hf:L0i r g = 1:=by
    simp only [L0i,ha67,hn75,L2s hp75,if_true,Bool.false_eq_true,if_false]
    rw [Gr q87]; simp [b8,b11,b22,b51,b63,b87,b92,b93,q11,q22,q51,q63,q87,q93]
   rw [Db p60_1 (by omega) hf (by omega)]
  have b95:=not_eq_f b92
  have q95:=Fz.1 b95
  refine Al ?_
  apply k64
  refine Ag rfl rfl ?_
  refine l_v (Br h60_47 rfl (z:=(((g + 1):Nat):Int)) (Bo (by first | rfl | omega | (push_cast; rfl)) (by omega) (by omega))) ?_
  refine l_v (Ah (v:=(iV ((((g + 1):Nat):Int)))) rfl) ?_
  refine Bj (Asf l70) ?_
  apply Ac
  refine ⟨_,?_,((g + 1)),es75,ck75,rfl,rfl,rfl,rfl,h60_1,h60_45,h60_46,h60_3,rfl,(by omega),(Eg p60_1 (by
 simp only [L0i,ha67,hn75,L2s hp75,if_true,Bool.false_eq_true,if_false]
 rw [Gr q87]; simp [b8,b11,b22,b51,b63,b87,b92,b95,q11,q22,q51,q63,q87,q95])),(Rl (Tq (by rw [List.getElem?_map,ha67]; rfl)) S75),trivial⟩
  omega
 have q63:=of_decide_eq_false b63
 refine Bx ?_
 apply k55
 refine w_q rfl rfl fun K96 k96=>?_
 refine l_v (Cp (v:=(iV (0))) rfl) ?_
 refine l_k k96 ?_
 refine Aj Ghost.drop ?_
 refine Aj Ghost.drop ?_
 refine Aj (Asf l2) ?_
 refine Aq ?_
 refine hret _ _ _ ⟨rfl,rfl,Eq.trans (b:=(iV (0))) rfl ?_⟩
 rw [L0q,if_pos (Fz.2 q11)]
 rw [Fb fun j hj=>p19_1 j (by omega),Gr rfl]
 rw [if_neg (by omega)]
 rw [Fb fun j hj=>p60_1 j (by omega)]
set_option maxRecDepth 100000 in
theorem L6r {mn:Bool} {X:Frame→List Frame→Ro→Own→Cy→Prop} {ρ:Ro} {σ:Own} {x:Span} {vx:Value} (rx:Val ρ vx x):CallsH (CX mn X) 104 #[vx] ρ σ (fun w ρ' σ'=>ρ' = ρ∧σ' = σ∧w = (.bool (!Ef x 0 1000))):=by
 refine Bh (n:=6) (args:=[vx]) [2] Tryz.func104 rfl rfl rfl rfl fun Q hret hnor=>?_
 refine w_q rfl rfl fun K1 k1=>?_
 refine Arv (Eb (v:=vx) rfl fun k2=>?_)
 refine Bb (a:=x) rx fun ρ2 l2 r2=>?_
 refine l_v (Cp (v:=(.bool (false))) rfl) ?_
 refine Arx rfl rfl k1 fun K3 k3=>?_
 refine Arw (Ax Mx rfl r2) fun v4 r4=>?_
 refine Arv (Bm (L3z r4) Tryz.func105 rfl rfl ⟨rfl,rfl,rfl,trivial⟩ ?_)
 refine l_v (Iy rfl) ?_
 refine l_v (Cp (v:=(.bool (!(Ef x 0 1000)))) rfl) ?_
 refine l_k k3 ?_
 refine Aj (Asf l2) ?_
 refine Aq ?_
 refine hret _ _ _ ⟨rfl,rfl,Eq.trans (b:=(.bool (!(Ef x 0 1000)))) rfl ?_⟩
 rfl
set_option maxRecDepth 100000 in
theorem L6n {mn:Bool} {X:Frame→List Frame→Ro→Own→Cy→Prop} {ρ:Ro} {σ:Own} {r:GRule} {vr:Value} {l:List Span} {vl:Value} (rr:Val ρ vr r) (rl:Val ρ vl l):CallsH (CX mn X) 44 #[vr,vl] ρ σ (fun w ρ' σ'=>ρ' = ρ∧σ' = σ∧w = (iV (L0f r l))):=by
 refine Bh (n:=19) (args:=[vr,vl]) [4] Tryz.func44 rfl rfl rfl rfl fun Q hret hnor=>?_
 refine w_q rfl rfl fun K1 k1=>?_
 refine Arv (Eb (v:=vr) rfl fun k2=>?_)
 refine Bb (a:=r) rr fun ρ2 l2 r2=>?_
 replace rl:=Asj l2 rl
 refine l_v (Cp (v:=(iV (0))) rfl) ?_
 refine Ary rfl rfl k1 fun K3 K4 k3 k4=>?_
 refine Arw (Ax L1e rfl r2) fun v5 r5=>?_
 refine Arv (Bm (L7j r5) Tryz.func102 rfl rfl ⟨rfl,trivial⟩ ?_)
 refine l_v (Cp (v:=(iV (L0q r))) rfl) ?_
 refine Arx rfl rfl k4 fun K6 k6=>?_
 refine l_v (Ah (v:=(iV (L0q r))) rfl) ?_
 refine l_v (Dg rfl rfl) ?_
 refine l_k k6 ?_
 refine As (t:=L0q r != 0) rfl (fun b7=>?_) (fun b7=>?_)
 ·have q7:=Ls b7
  refine w_q rfl rfl fun K8 k8=>?_
  refine l_v (Ah (v:=(iV (L0q r))) rfl) ?_
  refine l_v (Cp (v:=(iV (L0q r))) rfl) ?_
  refine l_k k8 ?_
  refine Aj (Asf l2) ?_
  refine Aq ?_
  refine hret _ _ _ ⟨rfl,rfl,Eq.trans (b:=(iV (L0q r))) rfl ?_⟩
  rw [L0f,Ry q7]
 have q7:=Jh b7
 refine Al ?_
 apply k3
 refine Asb rfl rfl fun K9 K10 k9 k10=>?_
 refine l_v (Ah (v:=vl) rfl) ?_
 have g11:=Val.len rl
 refine l_v (Ci (el:=41) Tryz.underlying26 rfl rl) ?_
 refine Arw (Ay GRule.f_measures Tryz.underlying25 rfl rfl L0g (by decide) rfl r2) fun v12 r12=>?_
 refine Arw (Ax L0g rfl r12) fun v13 r13=>?_
 have g14:=Val.len r13
 refine l_v (Ci (el:=39) Tryz.underlying22 rfl r13) ?_
 refine l_v (Dg rfl rfl) ?_
 refine l_k k10 ?_
 refine As (t:=((l.length:Nat):Int) != ((r.measures.length:Nat):Int)) rfl (fun b15=>?_) (fun b15=>?_)
 ·have q15:=Ls b15
  refine w_q rfl rfl fun K16 k16=>?_
  refine l_v (Cp (v:=(iV (2))) rfl) ?_
  refine l_k k16 ?_
  refine Aj (Asf l2) ?_
  refine Aq ?_
  refine hret _ _ _ ⟨rfl,rfl,Eq.trans (b:=(iV (2))) rfl ?_⟩
  rw [L0f,Gr q7]
  rw [if_neg (by omega)]
 have q15:=Jh b15
 refine Al ?_
 apply k9
 refine Asb rfl rfl fun K17 K18 k17 k18=>?_
 refine l_v (Ah (v:=vl) rfl) ?_
 refine Arv (Bm (Tb rl (⟨104,Tryz.f104,[],rfl,Tryz.func104,rfl,rfl,fun mn X ρ σ v x hv=>L6r hv⟩:Su (.func (.func 104) #[] #[]) (fun x:Span=>!Ef x 0 1000))) Tryz.func103 rfl rfl ⟨rfl,rfl,trivial⟩ ?_)
 refine l_k k18 ?_
 refine As (t:=l.any (fun x:Span=>!Ef x 0 1000)) rfl (fun b19=>?_) (fun b19=>?_)
 ·refine w_q rfl rfl fun K20 k20=>?_
  refine l_v (Cp (v:=(iV (1))) rfl) ?_
  refine l_k k20 ?_
  refine Aj (Asf l2) ?_
  refine Aq ?_
  refine hret _ _ _ ⟨rfl,rfl,Eq.trans (b:=(iV (1))) rfl ?_⟩
  rw [L0f,Gr q7]
  rw [if_pos (by omega),L4d,b19]; rfl
 refine Al ?_
 apply k17
 refine w_q rfl rfl fun K21 k21=>?_
 refine l_v (Cp (v:=(iV (0))) rfl) ?_
 refine l_k k21 ?_
 refine Aj (Asf l2) ?_
 refine Aq ?_
 refine hret _ _ _ ⟨rfl,rfl,Eq.trans (b:=(iV (0))) rfl ?_⟩
 rw [L0f,Gr q7]
 rw [if_pos (by omega),L4d,b19]; rfl
end Go.Proofs.YtphgjjmlnkgghaaGreatDoor

namespace Go.Proofs.YtphgjjmlnkgghaaGreatDoor
open Go
def L4s (C:Ctx) (l:Nat) (x:Value × Value) (ρ:Ro) (σ:Own) (R:Value→Ro→Own→Prop):Prop :=
  ∀ rd ds,wpS C.P ρ (Instr.yield l #[x.1,x.2]) σ (NextH C (fun v ds' ρ' σ'=>ds' = ds∧R v ρ' σ') rd ds ρ)
def IterF2 (f:Value) (ρ₀:Ro) (ys:List (Value × Value)):Prop :=
  ∃ (k:FuncId) (fn:Func) (caps:List Value),f = .func (.func k) #[] caps.toArray∧Tryz.prog.funcs[k]? = some fn∧(fn.name == "runtime.NumGoroutine") = false∧fn.body.isNone = false ∧
    ∀ (mn:Bool) (X:Frame→List Frame→Ro→Own→Cy→Prop) (l:Nat) (I:List (Value × Value)→Ro→Own→Prop) (ρ:Ro) (σ:Own),Ro.le ρ₀ ρ→(∀ pre ρ ρ' σ,Ro.le ρ ρ'→I pre ρ σ→I pre ρ' σ)→I [] ρ σ →
      (∀ pre x post ρ' σ',ys = pre ++ x :: post→Ro.le ρ ρ'→I pre ρ' σ'→L4s (CX mn X) l x ρ' σ' (fun v ρ'' σ''=>v = .bool true∧Ro.le ρ' ρ''∧I (pre ++ [x]) ρ'' σ'')) →
      CallsH (CX mn X) k (.func (.yield l) #[] #[] :: caps).toArray ρ σ (fun _ ρ' σ'=>Ro.le ρ ρ'∧I ys ρ' σ')
/-- The marks of ranges over functions,as many as there are. -/
abbrev L4m (ms:List Nat):List Deferred:=ms.map fun r=>{ target:=.collected r,args:=#[] }
abbrev L0d (ms:List Nat):Own:=ms.map fun r=>(r,Res.obj (.deferred (some [])))
theorem L2u {C:Ctx} {fn:Func} {rs:List Nat} {e:Env} {ρ:Ro} {R:Value→Ro→Own→Prop} (hr:fn.results = (rs.map ResultVar.tmp).toArray) {σ:Own} (h:R (Abp rs e) ρ σ):∀ (ms:List Nat) (D:Own),(∀ x ∈ D,∃ r o,x = (r,Res.obj o))→Aki C fn (fun v ρ' σ'=>∃ D σ'':Own,(∀ x ∈ D,∃ r o,x = (r,Res.obj o))∧σ' = D ++ σ''∧R v ρ' σ'') e ρ (L4m ms) (D ++ (L0d ms ++ σ))
  | [],D,hD=>Lm (Q:=fun v σ'=>∃ D σ'':Own,(∀ x ∈ D,∃ r o,x = (r,Res.obj o))∧σ' = D ++ σ''∧R v ρ σ'') hr ⟨D,σ,hD,rfl,h⟩
  | m :: ms,D,hD=>by
    refine ⟨m,D.length,rfl,?_,?_⟩
    · rw [List.getElem?_append_right (Nat.le_refl _),Nat.sub_self]; rfl
    · have e1:(D ++ (L0d (m :: ms) ++ σ)).set D.length (m,Res.obj (.deferred none)) = (D ++ [(m,Res.obj (.deferred none))]) ++ (L0d ms ++ σ):=by
        rw [List.set_append_right _ _ (Nat.le_refl _),Nat.sub_self]; simp
      rw [e1]
      exact L2u hr h ms _ fun x hx=>by
        rcases List.mem_append.1 hx with h1 | h1
        · exact hD x h1
        · rw [List.mem_singleton.1 h1]; exact ⟨_,_,rfl⟩
theorem L4x {ρ:Ro}:∀ {D σ:Own},(∀ x ∈ D,∃ r o,x = (r,Res.obj o))→Ghost ρ (D ++ σ) ρ σ
  | [],_,_=>.refl
  | x :: D,σ,h=>by
    obtain ⟨r,o,rfl⟩:=h x (List.mem_cons_self ..)
    exact Ghost.drop.trans (L4x fun y hy=>h y (List.mem_cons_of_mem _ hy))
/-- A call by its body,which leaves marks of ranges over functions. -/
theorem L6g {C:Ctx} {f:FuncId} {fn:Func} {c:Code} {n:Nat} {args:List Value} {ρ:Ro} {σ:Own} {R:Value→Ro→Own→Prop} (rs:List Nat) (hf:C.P.funcs[f]? = some fn) (hc:fn.body = some c) (hn:fn.ntmps = n) (ha:Nat.ble args.length n = true) (hr:fn.results = (rs.map ResultVar.tmp).toArray)
    (h:∀ Q:Hu,(∀ e ρ' σ' ms,R (Abp rs e) ρ' σ'→Q .ret e (L4m ms) ρ' (L0d ms ++ σ'))→(∀ e ρ' σ' ms,R (Abp rs e) ρ' σ'→Q .normal e (L4m ms) ρ' (L0d ms ++ σ'))→WpC C ⟨f,.normal,none⟩ n c Q (Pn args) [] ρ σ):CallsH C f args.toArray ρ σ R:=by
  have h1:CallsH C f args.toArray ρ σ (fun v ρ' σ'=>∃ D σ'':Own,(∀ x ∈ D,∃ r o,x = (r,Res.obj o))∧σ' = D ++ σ''∧R v ρ' σ'') :=
    Oy hf hc hn (Nat.le_of_ble_eq_true ha) (h _ (fun e ρ' σ' ms hR=>⟨fun id h=>(by cases h),L2u hr hR ms [] (by simp)⟩) (fun e ρ' σ' ms hR=>⟨fun id h=>(by cases h),L2u hr hR ms [] (by simp)⟩))
  intro c' cs
  refine (h1 c' cs).bind ?_
  rintro _ _ ρ' σ' ⟨v,rfl,rfl,D,σ'',hD,rfl,hR⟩
  exact .ghost (L4x hD) (.stop ⟨v,rfl,rfl,hR⟩)
theorem IterF2.mono {ρ₀ ρ₁:Ro} {f:Value} {ys:List (Value × Value)} (h:Ro.le ρ₀ ρ₁):IterF2 f ρ₀ ys→IterF2 f ρ₁ ys:=fun ⟨k,fn,caps,h1,h2,h3,h4,h5⟩=>⟨k,fn,caps,h1,h2,h3,h4,fun mn X l I ρ σ hle=>h5 mn X l I ρ σ (h.trans hle)⟩
theorem L6v {I:List (Value × Value)→Ro→Own→Prop} {pre pre':List (Value × Value)} {ρ:Ro} {σ:Own} (h:pre' = pre) (hi:I pre ρ σ):I pre' ρ σ:=by rw [h]; exact hi
theorem L3k {α β:Type} {f:α→β} (hf:∀ a b,f a = f b→a = b):∀ {l m:List α},l.map f = m.map f→l = m
  | [],[],_=>rfl
  | [],_ :: _,h=>by cases h
  | _ :: _,[],h=>by cases h
  | a :: l,b :: m,h=>by
    rw [List.map_cons,List.map_cons,List.cons.injEq] at h
    rw [hf _ _ h.1,L3k hf h.2]
theorem L2t {α β:Type} {f:α→β} (hf:∀ a b,f a = f b→a = b) {l m:List α} (h:l.map f = m.map f):m = l:=(L3k hf h).symm
theorem L2f {α β:Type} {f:α→β} (hf:∀ a b,f a = f b→a = b) {l l1:List α} {x:β} {post:List β} (h:l.map f = l1.map f ++ x :: post):∃ a l2,l = l1 ++ a :: l2∧x = f a:=by
  obtain ⟨k1,k2,h1,h2,h3⟩:=List.map_eq_append_iff.1 h
  obtain ⟨a,l2,h4,h5,h6⟩:=List.map_eq_cons_iff.1 h3
  have:=L3k hf h2
  subst this
  exact ⟨a,l2,by rw [h1,h4],h5.symm⟩
section
variable {mn:Bool} {X:Frame→List Frame→Ro→Own→Cy→Prop} {b:FB} {n:Nat} {e:Env} {ds:List Deferred} {ρ:Ro} {σ:Own} {K:Value→List Deferred→Ro→Own→Prop} {rd:Option Nat} {dd:Option Tmp}
variable {ty:TypeId} {pos:String} {af:Array Edge} {g:Option (Nat × Bool)} {x y z:Operand} {v v2 p:Value} {t t':TypeId}
theorem L7x {P:Program} {e:Env} {ρ:Ro} {ty t:TypeId} {x:Operand} {k:IntKind} {p z:Int} (hx:Af e x = .int k p) (hz:k.wrap (0 - p) = z):Yld P ρ e (.unOp .neg t x) ty (.int k z) :=
  Mt (s:=Op.unary .neg (Af e x)) (fun _ _ _ _=>rfl) fun ρ' σ _=>by rw [hx]; subst hz; exact ⟨rfl,rfl⟩
theorem L7e {l:Nat} {tys:Array TypeId} {R:Value→Ro→Own→Prop} (hx:Af e x = .func (.yield l) #[] #[]) (hy:Af e y = v) (hz:Af e z = v2) (hY:L4s (CX mn X) l (v,v2) ρ σ R) (h:∀ w ρ' σ',R w ρ' σ'→K w ds ρ' σ') :
    wpS (CX mn X).P ρ (execOp (Af e) ⟨dd,.call ⟨.value x,#[y,z],tys⟩,ty,pos,af,g⟩) σ (NextH (CX mn X) K rd ds ρ):=by
  have hargs:(#[y,z]:Array Operand).map (Af e) = #[v,v2]:=by simp [hy,hz]
  show wpS Tryz.prog ρ ((Deferred.ofValue (Af e x) ((#[y,z]:Array Operand).map (Af e))).bind _) σ _
  rw [hx,hargs]
  show wpS Tryz.prog ρ (Instr.yield l (#[] ++ #[v,v2])) σ _
  have e1:(#[] ++ #[v,v2]:Array Value) = #[v,v2]:=by simp
  rw [e1]
  exact Eu (fun nx σ' hn=>hn.mono (by rintro w ds' ρ' σ' ⟨rfl,hR⟩; exact h w ρ' σ' hR)) _ _ (hY rd ds)
/-- A RANGE OVER A FUNCTION,to the end: J says what is held beside the loop after the first values. -/
theorem L1n {f:Operand} {q q2:Nat} {assign body:Code} {Q:Hu} {fv:Value} {ys:List (Value × Value)} (J:List (Value × Value)→Ro→Own→Prop) (hr:b.round = none) (hk:b.kind = .normal) (hq:q < n) (hq2:q2 < n) (hf:Af e f = fv) (hF:IterF2 fv ρ ys)
    (hJm:∀ pre ρ ρ' σ,Ro.le ρ ρ'→J pre ρ σ→J pre ρ' σ) (hJ:J [] ρ σ)
    (hbody:∀ l pre x post ρ' τ,ys = pre ++ x :: post→Ro.le ρ ρ'→J pre ρ' τ→∀ pfx:Own,
      WpC (CX mn X) ⟨b.fn,.normal,some l⟩ n assign (fun ex e1 ds1 ρ1 σ1=>ex = .normal∧ds1 = []∧Ro.le ρ' ρ1∧∃ τ1,σ1 = pfx ++ τ1 ∧
        ∀ pfx2:Own,WpC (CX mn X) ⟨b.fn,.normal,some l⟩ n body (fun ex _ _ ρ2 σ2=>ex = .normal∧Ro.le ρ1 ρ2∧∃ τ2,σ2 = pfx2 ++ τ2∧J (pre ++ [x]) ρ2 τ2) e1 [] ρ1 (pfx2 ++ τ1)) (upd (upd e q x.1) q2 x.2) [] ρ' (pfx ++ τ))
    (hend:∀ r ρ' τ,Ro.le ρ ρ'→J ys ρ' τ→Q .normal e ({ target:=.collected r,args:=#[] } :: ds) ρ' ((r,.obj (.deferred (some []))) :: τ)) :
    WpC (CX mn X) b n (.rangeFunc f #[q,q2] assign body) Q e ds ρ σ:=by
  intro tm k cs ht
  obtain ⟨kk,fn,caps,rfl,h1,h2,h3,h4⟩:=hF
  have hkind:(b.kind == CallKind.early) = false:=by rw [hk]; rfl
  have hev:(Fr b tm ds (.code (.rangeFunc f #[q,q2] assign body) :: k)).eval f = .func (.func kk) #[] caps.toArray:=by rw [ht.eval]; exact hf
  refine Lw (s:=Instr.enterLoop b.fn tm #[q,q2] assign body none)
    (f:=fun lm=>(Frame.enter Tryz.prog kk (Value.func (.yield lm.1) #[] #[] :: caps).toArray .normal,Fr b tm (lm.2 ++ ds) (.inRangeFunc lm.1 :: k) :: cs))
    (Q:=fun lm σ'=>∃ r,lm.2 = [{ target:=.collected r,args:=#[] }]∧σ' = (lm.1,Res.obj (.loop { state:=.ready,pending:=none,fn:=b.fn,tmps:=tm,params:=#[q,q2],assign,body,defers:=r })) :: (r,.obj (.deferred (some []))) :: σ)
    (fun W lm W' es hrun=>?_) (Vj fun r l=>⟨r,rfl,rfl⟩) ?_
  · exact Abv hr hk (by rw [ht.eval]; exact hf) (P:=Tryz.prog) h1 h2 h3 hrun
  rintro ⟨l,mark⟩ σ' ⟨r,hm,rfl⟩
  simp only at hm
  subst hm
  -- the iterator's call
  let L:Loop:={ state:=.ready,pending:=none,fn:=b.fn,tmps:=tm,params:=#[q,q2],assign,body,defers:=r }
  have hcall:=h4 mn X l (fun pre ρ' σ'=>∃ τ,σ' = (l,Res.obj (.loop L)) :: (r,.obj (.deferred (some []))) :: τ∧J pre ρ' τ) ρ ((l,Res.obj (.loop L)) :: (r,.obj (.deferred (some []))) :: σ) .refl
    (fun pre ρ1 ρ2 σ1 hle ⟨τ,e1,e2⟩=>⟨τ,e1,hJm _ _ _ _ hle e2⟩) ⟨σ,rfl,hJ⟩ (fun pre x post ρ' σ' hys hle ⟨τ,e1,e2⟩ rd ds'=>?_)
  · refine (hcall (Fr b tm ([{ target:=.collected r,args:=#[] }] ++ ds) (.inRangeFunc l :: k)) cs).bind ?_
    rintro _ cs' ρ' σ' ⟨v,rfl,hcs,hle,τ,rfl,hJ'⟩
    subst hcs
    have e1:(Fr b tm ([{ target:=.collected r,args:=#[] }] ++ ds) (.inRangeFunc l :: k)).finish v = Fr b tm ([{ target:=.collected r,args:=#[] }] ++ ds) (.endRangeFunc l :: k):=rfl
    rw [e1]
    refine Lw (s:=Instr.endLoop l) (f:=fun j=>(Fr b tm ([{ target:=.collected r,args:=#[] }] ++ ds) ((j.map Item.code).toList ++ k),cs')) (Q:=fun j σ''=>j = none∧σ'' = (l,Res.obj (.loop { L with state:=.exhausted })) :: (r,.obj (.deferred (some []))) :: τ) (fun W j W' es hrun=>?_) (Zz rfl ⟨rfl,rfl⟩) ?_
    · exact ⟨seen Tryz.prog b.fn es ++ #[],by simp [Conc.G,stepG,stepG.exec,Fr,-Sem.runT_eq,hrun,GStep.after],fun ev he=>Lh (by simpa using he)⟩
    · rintro j σ'' ⟨rfl,rfl⟩
      refine .ghost Ghost.drop (.stop ⟨rfl,.normal,tm,e,_,k,ht,hend r ρ' τ hle hJ',rfl,rfl⟩)
  · subst e1
    refine Afw (i:=0) rfl (by simp [L]) ?_
    show RoundH (CX mn X) l b.fn _ assign body ρ' _ _
    have etm:((L.params.zip #[x.1,x.2]).foldl (fun tmps (t,a)=>tmps.setIfInBounds t a) L.tmps) = (tm.setIfInBounds q x.1).setIfInBounds q2 x.2:=by simp [L]
    rw [etm]
    refine Abr ((ht.put hq x.1).put hq2 x.2) ?_
    refine Adw (hbody l pre x post ρ' τ hys hle e2 [(l,Res.obj (.loop L)),(r,.obj (.deferred (some [])))]) ?_
    rintro ex e1 ds1 ρ1 σ1 ⟨rfl,rfl,hl1,τ1,rfl,hb⟩
    refine ⟨rfl,rfl,0,L,rfl,rfl,?_⟩
    refine Adw (hb [(l,Res.obj (.loop { L with state:=.busy })),(r,.obj (.deferred (some [])))]) ?_
    rintro ex e2 ds2 ρ2 σ2 ⟨rfl,hl2,τ2,rfl,hJ2⟩
    refine ⟨0,{ L with state:=.busy },rfl,rfl,rfl,hl1.trans hl2,τ2,?_,hJ2⟩
    rfl
end
end Go.Proofs.YtphgjjmlnkgghaaGreatDoor

namespace Go.Proofs.YtphgjjmlnkgghaaGreatDoor
open Go
/-- More may be read,and these blocks are still owned. -/
def leO (ρ₀:Ro) (A:Own):Ro→Own→Prop:=fun ρ' σ'=>Ro.le ρ₀ ρ'∧∀ p ∈ A,p ∈ σ'
def L5c (P:Program) (ρ₀:Ro) (A:Own) (e:Env) (op:Op) (ty:TypeId) (v:Value):Prop :=
  ∀ ρ' σ d pos af g,leO ρ₀ A ρ' σ→wpS P ρ' (execOp (Af e) ⟨d,op,ty,pos,af,g⟩) σ (fun nx σ'=>nx = .value v∧σ' = σ)
theorem Yld.o {P:Program} {ρ₀:Ro} {A:Own} {e:Env} {op:Op} {ty:TypeId} {v:Value} (h:Yld P ρ₀ e op ty v):L5c P ρ₀ A e op ty v:=fun ρ' σ d pos af g hS=>h ρ' σ d pos af g hS.1
theorem L0o {σ:Own}:∀ p ∈ ([]:Own),p ∈ σ:=fun p hp=>by cases hp
theorem L0l {A σ:Own} {x:Nat × Res} (h:∀ p ∈ A,p ∈ σ):∀ p ∈ x :: A,p ∈ x :: σ:=fun p hp=>by
  rcases List.mem_cons.1 hp with rfl | hp
  · exact List.mem_cons_self ..
  · exact List.mem_cons_of_mem _ (h p hp)
theorem L0m {A σ gr:Own} (h:∀ p ∈ A,p ∈ σ):∀ p ∈ gr ++ A,p ∈ gr ++ σ:=fun p hp=>by
  rcases List.mem_append.1 hp with hp | hp
  · exact List.mem_append_left _ hp
  · exact List.mem_append_right _ (h p hp)
theorem L0k {A σ:Own} {x:Nat × Res} (h:∀ p ∈ A,p ∈ σ):∀ p ∈ A,p ∈ x :: σ:=fun p hp=>List.mem_cons_of_mem _ (h p hp)
theorem L0n {A σ gr:Own} (h:∀ p ∈ A,p ∈ σ):∀ p ∈ A,p ∈ gr ++ σ:=fun p hp=>List.mem_append_right _ (h p hp)
section
variable {C:Ctx} {b:FB} {n:Nat} {l₀ rest:List Oper} {Q:Env→List Deferred→Ro→Own→Prop} {e:Env} {ds:List Deferred} {ρ ρ₀ ρ₁:Ro} {σ A:Own} {pz:List Nat} {fuel:Nat}
variable {d i:Nat} {op:Op} {ty:TypeId} {pos:String} {af:Array Edge} {g:Option (Nat × Bool)} {v:Value} {li:List Bool}
theorem L2z {id:Nat} {Q:Hu} (A:Own) (pz:List Nat) (hm:C.P.follows .mixedOrders = true) (hs:Nm n l₀ = true) (hk:b.kind = .normal)
    (h:El C b l₀.toArray (fun e ds ρ σ=>Q .normal e ds ρ σ) pz (leO ρ A) l₀.length (List.replicate l₀.length false).toArray e ds ρ σ):WpC C b n (.region id l₀.toArray true) Q e ds ρ σ :=
  Vk pz (leO ρ A) hm (Ih hs) (by rw [hk]; simp) (by simpa using h)
theorem L5v (hr:Dl l₀ li = []) (h:Q e ds ρ σ):El C b l₀.toArray Q pz (leO ρ₀ A) fuel li.toArray e ds ρ σ:=Aeb (by rw [Hh]; exact hr) h fuel
theorem L1a (li':List Bool) (hli:li.set i true = li') (ht:Py l₀ li pz i = true) (hi:l₀[i]? = some ⟨some d,op,ty,pos,af,g⟩)
    (hS:leO ρ₀ A ρ σ) (hw:Bz l₀.toArray ⟨some d,op,ty,pos,af,g⟩ e = true) (hy:L5c C.P ρ₀ A e op ty v) (h:El C b l₀.toArray Q pz (leO ρ₀ A) fuel li'.toArray (upd e d v) ds ρ σ) :
    El C b l₀.toArray Q pz (leO ρ₀ A) (fuel + 1) li.toArray e ds ρ σ:=by
  obtain ⟨h1,h2,h3,h4⟩:=Wg ht
  refine Vm (by rw [List.getElem?_toArray]; exact hi) h1 h2 h3 h4 (.inl ⟨hw,fun ρ' σ' hS'=>hy ρ' σ' _ _ _ _ hS'⟩) hS ?_
  rw [Mo hli]; exact h
theorem L2c {F:Value→Prop} (li':List Bool) (hli:li.set i true = li') (ht:Py l₀ li pz i = true) (hi:l₀[i]? = some ⟨some d,op,ty,pos,af,g⟩)
    (hS:leO ρ₀ A ρ σ) (hw:Bz l₀.toArray ⟨some d,op,ty,pos,af,g⟩ e = true) (hy:∃ v,F v∧L5c C.P ρ₀ A e op ty v) (h:∀ v,F v→El C b l₀.toArray Q pz (leO ρ₀ A) fuel li'.toArray (upd e d v) ds ρ σ) :
    El C b l₀.toArray Q pz (leO ρ₀ A) (fuel + 1) li.toArray e ds ρ σ:=let ⟨v,h1,h2⟩:=hy; L1a li' hli ht hi hS hw h2 (h v h1)
theorem L4n {ρ':Ro} {σ':Own} (hg:Ghost ρ σ ρ' σ') (hS:leO ρ₀ A ρ σ→leO ρ₀ A ρ' σ') (h:El C b l₀.toArray Q pz (leO ρ₀ A) (fuel + 1) li.toArray e ds ρ' σ'):El C b l₀.toArray Q pz (leO ρ₀ A) (fuel + 1) li.toArray e ds ρ σ:=Aar hg hS h
/-- The one that may come up. -/
theorem L2m (li':List Bool) (hli:li.set i true = li') (hr:Dl l₀ li = [i]) (hi:l₀[i]? = some ⟨some d,op,ty,pos,af,g⟩) (hw:Bz l₀.toArray ⟨some d,op,ty,pos,af,g⟩ e = true)
    (h:wpS C.P ρ (execOp (Af e) ⟨some d,op,ty,pos,af,g⟩) σ (NextH C (fun v ds' ρ' σ'=>leO ρ₀ A ρ' σ'∧El C b l₀.toArray Q pz (leO ρ₀ A) fuel li'.toArray (upd e d v) ds' ρ' σ') b.round ds ρ)) :
    El C b l₀.toArray Q pz (leO ρ₀ A) (fuel + 1) li.toArray e ds ρ σ:=by
  refine Mz ((Hh _ _).trans hr) (by simp) fun j hj=>?_
  rw [List.mem_singleton] at hj; subst hj
  unfold OpH
  simp only [List.getElem?_toArray,hi,Mo hli]
  rw [if_pos hw]
  exact Eu (fun nx σ' hn=>hn.mono fun v ds ρ σ hh=>⟨fun _=>hh.1,hh.2⟩) _ _ h
/-- The one that may come up,and that waits for those that were taken first. -/
theorem L3a (li':List Bool) (hli:li.set i true = li') (hr:Dl l₀ li = [i]) (hl:Pg l₀.toArray pz i = true) (hi:l₀[i]? = some ⟨none,op,ty,pos,af,g⟩) (hw:Bz l₀.toArray ⟨none,op,ty,pos,af,g⟩ e = true)
    (h:wpS C.P ρ (execOp (Af e) ⟨none,op,ty,pos,af,g⟩) σ (NextH C (fun _ ds' ρ' σ'=>El C b l₀.toArray Q pz (leO ρ₀ A) fuel li'.toArray e ds' ρ' σ') b.round ds ρ)) :
    El C b l₀.toArray Q pz (leO ρ₀ A) (fuel + 1) li.toArray e ds ρ σ:=by
  refine Mz ((Hh _ _).trans hr) (by simp) fun j hj=>?_
  rw [List.mem_singleton] at hj; subst hj
  unfold OpH
  simp only [List.getElem?_toArray,hi,Mo hli]
  rw [if_pos hw]
  exact Eu (fun nx σ' hn=>hn.mono fun v ds ρ σ hh=>⟨fun h=>(by rw [hl] at h; cases h),hh⟩) _ _ h
theorem L1l (li':List Bool) (hli:li.set i true = li') (hr:Dl l₀ li = [i]) (hi:l₀[i]? = some ⟨some d,op,ty,pos,af,g⟩) (hS:leO ρ₀ A ρ σ) (hw:Bz l₀.toArray ⟨some d,op,ty,pos,af,g⟩ e = true) (hy:L5c C.P ρ₁ A e op ty v) (hS1:leO ρ₁ A ρ σ)
    (h:El C b l₀.toArray Q pz (leO ρ₀ A) fuel li'.toArray (upd e d v) ds ρ σ):El C b l₀.toArray Q pz (leO ρ₀ A) (fuel + 1) li.toArray e ds ρ σ :=
  L2m li' hli hr hi hw (Eu (by rintro nx σ' ⟨rfl,rfl⟩; exact ⟨hS,h⟩) _ _ (hy ρ σ _ _ _ _ hS1))
theorem L5w {F:Value→Prop} (li':List Bool) (hli:li.set i true = li') (hr:Dl l₀ li = [i]) (hi:l₀[i]? = some ⟨some d,op,ty,pos,af,g⟩) (hS:leO ρ₀ A ρ σ) (hw:Bz l₀.toArray ⟨some d,op,ty,pos,af,g⟩ e = true) (hy:∃ v,F v∧L5c C.P ρ₁ A e op ty v) (hS1:leO ρ₁ A ρ σ)
    (h:∀ v,F v→El C b l₀.toArray Q pz (leO ρ₀ A) fuel li'.toArray (upd e d v) ds ρ σ):El C b l₀.toArray Q pz (leO ρ₀ A) (fuel + 1) li.toArray e ds ρ σ:=let ⟨v,h1,h2⟩:=hy; L1l li' hli hr hi hS hw h2 hS1 (h v h1)
end
section
variable {P:Program} {ρ₀:Ro} {A:Own} {e:Env} {ty t t':TypeId} {x:Operand} {v:Value}
theorem L1k {r off:Nat} {c:List Value} {fz:Nat × Nat} (hT:∃ d,P.underlying t = some d∧Qv d = false) (hx:Af e x = .pointer (some ⟨r,off,none⟩)) (hm:(r,Res.obj (.cells c.toArray t' fz)) ∈ A) (hc:c[off]? = some v):L5c P ρ₀ A e (.load t x) ty v:=fun ρ' σ d pos af g hS=>by
  show wpS P ρ' ((Instr.loadAt t (Af e x)).bind fun v=>Sem.pure (Next.value v)) σ _
  rw [Ad,hx]
  show wpS P ρ' (loadVar t ⟨r,off,none⟩) σ _
  show wpS P ρ' ((isAgg t).bind _) σ _
  rw [Ad]
  refine Hi hT ?_
  exact ⟨rfl,rfl,_,v,.inr (hS.2 _ hm),by simpa [Gy] using hc,rfl,rfl⟩
end
/-- A growing slice of sales,but that the sellers of one of them are held elsewhere. -/
def GrowS (ρ:Ro) (v:Value) (xs:List Sale) (i:Nat) (w:Value) (gr:Own):Prop :=
  (∀ p ∈ gr,∃ o,p.2 = Res.obj o)∧xs.length < 2 ^ 60∧∃ r cap ca cc rs gb z,xs[i]? = some z∧v = .slice (some ⟨r,0,none⟩) xs.length cap∧gr = (r,.obj (.cells (ca ++ (.int .i64 z.grams :: w :: cc) ++ rs).toArray 146 (0,0))) :: gb ∧
    I64 z.grams∧ca.length = i * 2∧(∀ (w':Value) (ys:List Int) (ρ':Ro),Ro.le ρ ρ'→Val ρ' w' ys→Rows ρ' (ca ++ (.int .i64 z.grams :: w' :: cc)) (xs.set i ⟨z.grams,ys⟩))∧(ca ++ (.int .i64 z.grams :: w :: cc) ++ rs).length = cap * 2∧xs.length ≤ cap
theorem GrowS.mono {ρ ρ':Ro} {v w:Value} {xs:List Sale} {i:Nat} {gr:Own} (hle:Ro.le ρ ρ') (h:GrowS ρ v xs i w gr):GrowS ρ' v xs i w gr:=by
  obtain ⟨h1,h2,r,cap,ca,cc,rs,gb,z,h3,h4,h5,h6,h7,h8,h9,h10⟩:=h
  exact ⟨h1,h2,r,cap,ca,cc,rs,gb,z,h3,h4,h5,h6,h7,fun w' ys ρ'' hl hv=>h8 w' ys ρ'' (hle.trans hl) hv,h9,h10⟩
section
variable {P:Program} {ρ₀:Ro} {A:Own} {e:Env} {ty t t':TypeId} {x y:Operand} {v w:Value} {xs:List Sale} {i:Nat} {gr:Own}
end
section
variable {C:Ctx} {e:Env} {ds:List Deferred} {ρ:Ro} {σ:Own} {K:Value→List Deferred→Ro→Own→Prop} {rd:Option Nat} {dd:Option Tmp}
variable {ty:TypeId} {pos:String} {af:Array Edge} {g:Option (Nat × Bool)} {x y:Operand} {v w w':Value} {t t':TypeId} {xs:List Sale} {i:Nat} {gr:Own}
end
theorem L1o {P:Program} {ρ₀:Ro} {A:Own} {e:Env} {op:Op} {ty:TypeId} {F:Value→Prop} (h:∃ v,F v∧Yld P ρ₀ e op ty v):∃ v,F v∧L5c P ρ₀ A e op ty v:=let ⟨v,h1,h2⟩:=h; ⟨v,h1,h2.o⟩
theorem L8a {C:Ctx} {b:FB} {l₀:List Oper} {Q:Env→List Deferred→Ro→Own→Prop} {e:Env} {ds:List Deferred} {ρ ρ₀:Ro} {σ σ' A:Own} {pz:List Nat} {fuel:Nat} {li:List Bool} (hp:σ.Perm σ') (h:El C b l₀.toArray Q pz (leO ρ₀ A) (fuel + 1) li.toArray e ds ρ σ'):El C b l₀.toArray Q pz (leO ρ₀ A) (fuel + 1) li.toArray e ds ρ σ :=
  L4n (Asg hp) (fun hS=>⟨hS.1,fun p hm=>hp.mem_iff.1 (hS.2 p hm)⟩) h
section
variable {P:Program} {ρ₀ ρ:Ro} {A:Own} {e:Env} {ty t t':TypeId} {x y:Operand} {v:Value}
end
theorem L6h {α:Type} [Dat α] {C:Ctx} {b:FB} {l₀:List Oper} {Q:Env→List Deferred→Ro→Own→Prop} {e:Env} {ds:List Deferred} {ρ ρ₀:Ro} {σ A:Own} {pz:List Nat} {fuel:Nat} {li:List Bool} {v:Value} {el:TypeId} {xs:List α} {gr:Own} (hg:Grow ρ el v xs gr) (hA:∀ p ∈ A,p ∈ σ)
    (h:∀ ρ',Ro.le ρ ρ'→Val ρ' v xs→El C b l₀.toArray Q pz (leO ρ₀ A) (fuel + 1) li.toArray e ds ρ' σ):El C b l₀.toArray Q pz (leO ρ₀ A) (fuel + 1) li.toArray e ds ρ (gr ++ σ):=by
  rcases hg.2.2 with ⟨h1,h2⟩ | ⟨r,cap,cs,rs,gb,h1,h2,h3,h4,h5⟩
  · refine L4n (Vn hg.1) (fun hS=>⟨hS.1,hA⟩) (h ρ .refl ?_)
    rw [h1,h2]; exact Gx
  · subst h2
    by_cases hb:ρ r = none
    · have hle:Ro.le ρ (ρ.add r (.cells (cs ++ rs).toArray el (0,0))):=fun x ox hx=>by
        unfold Ro.add; rw [if_neg (fun e=>by rw [e,hb] at hx; cases hx)]; exact hx
      show El C b l₀.toArray Q pz (leO ρ₀ A) (fuel + 1) li.toArray e ds ρ ((r,_) :: (gb ++ σ))
      exact L4n ((Ghost.freeze hb).trans (Vn fun p hp=>hg.1 p (List.mem_cons_of_mem _ hp))) (fun hS=>⟨hS.1.trans hle,hA⟩) (h _ hle (Grow.val (rs:=rs) (el:=el) hg.2.1 h1 (h3.mono hle) h5 (by simp [Ro.add])))
    · exact .inl fun W hs=>absurd (hs.dj r (List.mem_cons_self ..)) hb
end Go.Proofs.YtphgjjmlnkgghaaGreatDoor
