/- Every call of crocuslaw08.FakeWet returns true, on every schedule, and leaves its arguments as they were: conditions: the two listed package-level variables hold what the program's text lays. -/
import Derived.Test.YtphgjjmlnkgghaaGreatDoorEWa
set_option linter.unusedVariables false
set_option linter.unusedSimpArgs false
namespace Go.Proofs.YtphgjjmlnkgghaaGreatDoor
set_option maxHeartbeats 1000000
open Go
def L1n (d:Drying) (n:Nat):Stove:=⟨d,(d.steps.take n).map fun x=>(⟨⟨x⟩,(d.heats.length:Int)⟩:Stage)⟩
def L1b (d:Drying):Stove:=L1n d d.steps.length
theorem L3n {d:Drying} {i:Nat} {x:Stage} (h:(L1b d).stages[i]? = some x):∃ y,d.steps[i]? = some y∧x = ⟨⟨y⟩,(d.heats.length:Int)⟩:=by
 unfold L1b L1n at h
 simp only [List.take_length] at h
 rw [List.getElem?_map] at h
 obtain ⟨y,h1,h2⟩:=Option.map_eq_some_iff.1 h
 exact ⟨y,h1,h2.symm⟩
theorem L0x {d:Drying}:(L1b d).stages.length = d.steps.length:=by simp [L1b,L1n]
theorem L7z {a b A B:Int} (ha:0 ≤ a∧a ≤ A) (hb:0 ≤ b∧b ≤ B):0 ≤ a * b∧a * b ≤ A * B :=
 ⟨Int.mul_nonneg ha.1 hb.1,Int.le_trans (Int.mul_le_mul_of_nonneg_left hb.2 ha.1) (Int.mul_le_mul_of_nonneg_right ha.2 (by omega))⟩
theorem L8g {n:Int} (h:0 ≤ n):0 ≤ n.tdiv 1000∧n.tdiv 1000 ≤ n:=by rw [Int.tdiv_eq_ediv_of_nonneg h]; omega
theorem L7u {d:Drying} {i:Int} {h:DryHeat} (hh:d.heats[i.toNat]? = some h):L2p d i = h:=by unfold L2p; rw [List.getD_eq_getElem?_getD,hh]; rfl
def L2y (x:DWindow) (s:DryState):Bool:=inR s.water x.step.water.low x.step.water.high && decide (s.colour ≥ x.step.colour)
def nD (x:Span):Nat:=(x.high - x.low + 1).toNat
def L1e (x:Span) (k:Nat):List Int:=(List.range k).map fun j=>x.low + ((j:Nat):Int)
def L1p (x:Span):List Int:=L1e x (nD x)
theorem M0c:∀ a b:Int,Value.int .i64 a = .int .i64 b→a = b:=fun a b h=>by injection h
theorem L4j {x:Span} {k:Nat}:L1e x (k + 1) = L1e x k ++ [x.low + (k:Int)]:=by unfold L1e; rw [List.range_succ,List.map_append]; rfl
theorem L3t {x:Span} {n j:Nat} (h:j < n):L1e x n = L1e x j ++ (x.low + ((j:Nat):Int)) :: ((List.range' (j + 1) (n - 1 - j)).map fun j=>x.low + ((j:Nat):Int)):=by
 have e1:List.range n = List.range j ++ j :: List.range' (j + 1) (n - 1 - j):=by
  obtain ⟨d,rfl⟩:∃ d,n = j + (1 + d):=⟨n - 1 - j,by omega⟩
  rw [show j + (1 + d) - 1 - j = d by omega,List.range_eq_range',List.range_eq_range',← List.range'_append_1,← List.range'_append_1]
  simp
 unfold L1e
 rw [e1,List.map_append,List.map_cons]
theorem L3y {x:Span} {a:Int}:a ∈ L1p x↔x.low ≤ a∧a ≤ x.high:=by
 unfold L1p L1e nD
 rw [List.mem_map]
 constructor
 ·rintro ⟨j,hj,rfl⟩; rw [List.mem_range] at hj; omega
 ·intro h; exact ⟨(a - x.low).toNat,List.mem_range.2 (by omega),by omega⟩
set_option maxRecDepth 100000 in
theorem L0i {mn:Bool} {X:Frame→List Frame→Ro→Own→Cy→Prop} {ρ:Ro} {σ:Own} {n low high:Int} :CallsH (CX mn X) 62 #[(iV (n)),(iV (low)),(iV (high))] ρ σ (fun w ρ' σ'=>ρ' = ρ∧σ' = σ∧w = (.bool (inR n low high))):=by
 refine Bh (n:=15) (args:=[(iV (n)),(iV (low)),(iV (high))]) [6] Tryz.func62 rfl rfl rfl rfl fun Q hret hnor=>?_
 refine w_q rfl rfl fun K1 k1=>?_
 refine l_v (Cp (v:=(.bool (false))) rfl) ?_
 refine Arx rfl rfl k1 fun K2 k2=>?_
 refine l_v (Ah (v:=(iV (low))) rfl) ?_
 refine l_v (Ah (v:=(iV (n))) rfl) ?_
 refine l_v (Uz rfl rfl) ?_
 refine l_v (Ah (v:=(.bool (decide (low ≤ n)))) rfl) ?_
 refine Cn (decide (low ≤ n)) (fun b3=>?_) (fun b3=>?_)
 ·have q3:=of_decide_eq_true b3
  refine l_M (iV (n)) (Ar rfl rfl rfl b3) rfl ?_
  refine l_M (iV (high)) (Ar rfl rfl rfl b3) rfl ?_
  refine Aa (Ar rfl rfl rfl b3) (Uz rfl rfl) ?_
  refine l_v (Bt rfl b3 (v:=(.bool (decide (n ≤ high)))) rfl) ?_
  refine l_v (Cp (v:=(.bool (decide (n ≤ high)))) rfl) ?_
  refine l_k k2 ?_
  refine Aq ?_
  refine hret _ _ _ ⟨rfl,rfl,Eq.trans (b:=(.bool (decide (n ≤ high)))) rfl ?_⟩
  simp only [inR,b3,Bool.true_and,Bool.false_and,Bool.and_true,Bool.and_false,Bool.true_or,Bool.false_or,Bool.or_true,Bool.or_false,Bool.not_true,Bool.not_false]
 have q3:=of_decide_eq_false b3
 refine Ap (Bl rfl rfl rfl b3) ?_
 refine Ap (Bl rfl rfl rfl b3) ?_
 refine Ap (Bl rfl rfl rfl b3) ?_
 refine l_v (Bn rfl b3 (v:=(.bool (false))) rfl) ?_
 refine l_v (Cp (v:=(.bool (false))) rfl) ?_
 refine l_k k2 ?_
 refine Aq ?_
 refine hret _ _ _ ⟨rfl,rfl,Eq.trans (b:=(.bool (false))) rfl ?_⟩
 simp only [inR,b3,Bool.true_and,Bool.false_and,Bool.and_true,Bool.and_false,Bool.true_or,Bool.false_or,Bool.or_true,Bool.or_false,Bool.not_true,Bool.not_false]
set_option maxRecDepth 100000 in
theorem L3v {mn:Bool} {X:Frame→List Frame→Ro→Own→Cy→Prop} {ρ:Ro} {σ:Own} {x:Span} {vx:Value} {low high:Int} (rx:Val ρ vx x):CallsH (CX mn X) 178 #[vx,(iV (low)),(iV (high))] ρ σ (fun w ρ' σ'=>ρ' = ρ∧σ' = σ∧w = (.bool (Ef x low high))):=by
 refine Bh (n:=24) (args:=[vx,(iV (low)),(iV (high))]) [6] Tryz.func178 rfl rfl rfl rfl fun Q hret hnor=>?_
 refine w_q rfl rfl fun K1 k1=>?_
 refine Arv (Eb (v:=vx) rfl fun k2=>?_)
 refine Bb (a:=x) rx fun ρ2 l2 r2=>?_
 refine l_v (Cp (v:=(.bool (false))) rfl) ?_
 refine Arx rfl rfl k1 fun K3 k3=>?_
 refine l_v (Ah (v:=(iV (low))) rfl) ?_
 refine Arw (Ay Span.f_low Tryz.underlying41 rfl rfl ty3 (by decide) rfl r2) fun v4 r4=>?_
 have ⟨g5a,g5b⟩:=At.rng r4
 refine l_v (Bc ty3 rfl r4) ?_
 refine l_v (Uz rfl rfl) ?_
 refine l_v (Ah (v:=(.bool (decide (low ≤ x.low)))) rfl) ?_
 refine Cn (decide (low ≤ x.low)) (fun b6=>?_) (fun b6=>?_)
 ·have q6:=of_decide_eq_true b6
  refine Ak (Ar rfl rfl rfl b6) (Ay Span.f_low Tryz.underlying41 rfl rfl ty3 (by decide) rfl r2) fun v7 r7=>?_
  have ⟨g8a,g8b⟩:=At.rng r7
  refine Aa (Ar rfl rfl rfl b6) (Bc ty3 rfl r7) ?_
  refine Ak (Ar rfl rfl rfl b6) (Ay Span.f_high Tryz.underlying41 rfl rfl ty3 (by decide) rfl r2) fun v9 r9=>?_
  have ⟨g10a,g10b⟩:=At.rng r9
  refine Aa (Ar rfl rfl rfl b6) (Bc ty3 rfl r9) ?_
  refine Aa (Ar rfl rfl rfl b6) (Uz rfl rfl) ?_
  refine l_v (Bt rfl b6 (v:=(.bool (decide (x.low ≤ x.high)))) rfl) ?_
  refine l_v (Ah (v:=(.bool (decide (x.low ≤ x.high)))) rfl) ?_
  refine Cn (decide (x.low ≤ x.high)) (fun b11=>?_) (fun b11=>?_)
  ·have q11:=of_decide_eq_true b11
   refine Ak (Ar rfl rfl rfl b11) (Ay Span.f_high Tryz.underlying41 rfl rfl ty3 (by decide) rfl r2) fun v12 r12=>?_
   have ⟨g13a,g13b⟩:=At.rng r12
   refine Aa (Ar rfl rfl rfl b11) (Bc ty3 rfl r12) ?_
   refine l_M (iV (high)) (Ar rfl rfl rfl b11) rfl ?_
   refine Aa (Ar rfl rfl rfl b11) (Uz rfl rfl) ?_
   refine l_v (Bt rfl b11 (v:=(.bool (decide (x.high ≤ high)))) rfl) ?_
   refine l_v (Cp (v:=(.bool (decide (x.high ≤ high)))) rfl) ?_
   refine l_k k3 ?_
   refine Aj (Asf l2) ?_
   refine Aq ?_
   refine hret _ _ _ ⟨rfl,rfl,Eq.trans (b:=(.bool (decide (x.high ≤ high)))) rfl ?_⟩
   simp only [Ef,b6,b11,Bool.true_and,Bool.false_and,Bool.and_true,Bool.and_false,Bool.true_or,Bool.false_or,Bool.or_true,Bool.or_false,Bool.not_true,Bool.not_false]
  have q11:=of_decide_eq_false b11
  refine Ap (Bl rfl rfl rfl b11) ?_
  refine Ap (Bl rfl rfl rfl b11) ?_
  refine Ap (Bl rfl rfl rfl b11) ?_
  refine Ap (Bl rfl rfl rfl b11) ?_
  refine l_v (Bn rfl b11 (v:=(.bool (false))) rfl) ?_
  refine l_v (Cp (v:=(.bool (false))) rfl) ?_
  refine l_k k3 ?_
  refine Aj (Asf l2) ?_
  refine Aq ?_
  refine hret _ _ _ ⟨rfl,rfl,Eq.trans (b:=(.bool (false))) rfl ?_⟩
  simp only [Ef,b6,b11,Bool.true_and,Bool.false_and,Bool.and_true,Bool.and_false,Bool.true_or,Bool.false_or,Bool.or_true,Bool.or_false,Bool.not_true,Bool.not_false]
 have q6:=of_decide_eq_false b6
 refine Ap (Bl rfl rfl rfl b6) ?_
 refine Ap (Bl rfl rfl rfl b6) ?_
 refine Ap (Bl rfl rfl rfl b6) ?_
 refine Ap (Bl rfl rfl rfl b6) ?_
 refine Ap (Bl rfl rfl rfl b6) ?_
 refine l_v (Bn rfl b6 (v:=(.bool (false))) rfl) ?_
 refine l_v (Ah (v:=(.bool (false))) rfl) ?_
 refine Ap (Bl rfl rfl rfl rfl) ?_
 refine Ap (Bl rfl rfl rfl rfl) ?_
 refine Ap (Bl rfl rfl rfl rfl) ?_
 refine Ap (Bl rfl rfl rfl rfl) ?_
 refine l_v (Bn rfl rfl (v:=(.bool (false))) rfl) ?_
 refine l_v (Cp (v:=(.bool (false))) rfl) ?_
 refine l_k k3 ?_
 refine Aj (Asf l2) ?_
 refine Aq ?_
 refine hret _ _ _ ⟨rfl,rfl,Eq.trans (b:=(.bool (false))) rfl ?_⟩
 simp only [Ef,b6,Bool.true_and,Bool.false_and,Bool.and_true,Bool.and_false,Bool.true_or,Bool.false_or,Bool.or_true,Bool.or_false,Bool.not_true,Bool.not_false]
set_option maxRecDepth 100000 in
theorem L7k {mn:Bool} {X:Frame→List Frame→Ro→Own→Cy→Prop} {ρ:Ro} {σ:Own} {d:Drying} {vd vs:Value} {s:DryState} (rd:Val ρ vd d) (rs:Val ρ vs s):CallsH (CX mn X) 177 #[vd,vs] ρ σ (fun w ρ' σ'=>ρ' = ρ∧σ' = σ∧w = (iV (L0n d s))):=by
 refine Bh (n:=25) (args:=[vd,vs]) [4] Tryz.func177 rfl rfl rfl rfl fun Q hret hnor=>?_
 refine w_q rfl rfl fun K1 k1=>?_
 refine Arv (Eb (v:=vd) rfl fun k2=>?_)
 refine Bb (a:=d) rd fun ρ2 l2 r2=>?_
 replace rs:=Asj l2 rs
 refine Arv (Eb (v:=vs) rfl fun k3=>?_)
 refine Bb (a:=s) rs fun ρ3 l3 r3=>?_
 replace r2:=At.mono l3 r2
 refine l_v (Cp (v:=(iV (0))) rfl) ?_
 refine Asa k1 fun K4 k4=>?_
 refine Ao ?_
 refine w_q rfl rfl fun K5 k5=>?_
 refine Arw (Ay DryState.f_water Tryz.underlying56 rfl rfl ty3 (by decide) rfl r3) fun v6 r6=>?_
 have ⟨g7a,g7b⟩:=At.rng r6
 refine l_v (Bc ty3 rfl r6) ?_
 refine Arv (Bm (L0i) Tryz.func62 rfl rfl ⟨rfl,rfl,rfl,trivial⟩ ?_)
 refine l_v (Iy rfl) ?_
 refine l_v (Ah (v:=(.bool (!(inR s.water 0 5000)))) rfl) ?_
 refine Cn (!(inR s.water 0 5000)) (fun b8=>?_) (fun b8=>?_)
 ·have b9:=not_eq_t b8
  have q9:=Tr.1 b9
  refine Ap (Bl rfl rfl rfl b8) ?_
  refine Ap (Bl rfl rfl rfl b8) ?_
  refine Ap (Bl rfl rfl rfl b8) ?_
  refine Ap (Bl rfl rfl rfl b8) ?_
  refine l_v (Bt rfl b8 (v:=(.bool (true))) rfl) ?_
  refine l_v (Cp (v:=(.bool (true))) rfl) ?_
  refine l_k k5 ?_
  refine Co rfl rfl ?_
  refine w_q rfl rfl fun K10 k10=>?_
  refine l_v (Cp (v:=(iV (1))) rfl) ?_
  refine l_k k10 ?_
  refine Aj (Asf (Asi l2 l3)) ?_
  refine Aq ?_
  refine hret _ _ _ ⟨rfl,rfl,Eq.trans (b:=(iV (1))) rfl ?_⟩
  simp only [L0n,b8,b9,Bool.true_and,Bool.false_and,Bool.and_true,Bool.and_false,Bool.true_or,Bool.false_or,Bool.or_true,Bool.or_false,Bool.not_true,Bool.not_false,if_true,Bool.false_eq_true,if_false]
 have b11:=not_eq_f b8
 have q11:=Fz.1 b11
 refine Ak (Ar rfl rfl rfl b8) (Ay DryState.f_colour Tryz.underlying56 rfl rfl ty3 (by decide) rfl r3) fun v12 r12=>?_
 have ⟨g13a,g13b⟩:=At.rng r12
 refine Aa (Ar rfl rfl rfl b8) (Bc ty3 rfl r12) ?_
 refine Ae (Ar rfl rfl rfl b8) (Bm (L0i) Tryz.func62 rfl rfl ⟨rfl,rfl,rfl,trivial⟩ ?_)
 refine Aa (Ar rfl rfl rfl b8) (Iy rfl) ?_
 refine l_v (Bn rfl b8 (v:=(.bool (!(inR s.colour 0 1000)))) rfl) ?_
 refine l_v (Cp (v:=(.bool (!(inR s.colour 0 1000)))) rfl) ?_
 refine l_k k5 ?_
 refine As (t:=!(inR s.colour 0 1000)) rfl (fun b14=>?_) (fun b14=>?_)
 ·have b15:=not_eq_t b14
  have q15:=Tr.1 b15
  refine w_q rfl rfl fun K16 k16=>?_
  refine l_v (Cp (v:=(iV (1))) rfl) ?_
  refine l_k k16 ?_
  refine Aj (Asf (Asi l2 l3)) ?_
  refine Aq ?_
  refine hret _ _ _ ⟨rfl,rfl,Eq.trans (b:=(iV (1))) rfl ?_⟩
  simp only [L0n,b8,b11,b14,b15,Bool.true_and,Bool.false_and,Bool.and_true,Bool.and_false,Bool.true_or,Bool.false_or,Bool.or_true,Bool.or_false,Bool.not_true,Bool.not_false,if_true,Bool.false_eq_true,if_false]
 have b17:=not_eq_f b14
 have q17:=Fz.1 b17
 refine w_q rfl rfl fun K18 k18=>?_
 refine Arw (Ay DryState.f_heat Tryz.underlying56 rfl rfl ty3 (by decide) rfl r3) fun v19 r19=>?_
 have ⟨g20a,g20b⟩:=At.rng r19
 refine l_v (Bc ty3 rfl r19) ?_
 refine Arw (Ay Drying.f_heats Tryz.underlying59 rfl rfl L0k (by decide) rfl r2) fun v21 r21=>?_
 refine Arw (Ax L0k rfl r21) fun v22 r22=>?_
 have g23:=Val.len r22
 refine l_v (Ci (el:=152) Tryz.underlying54 rfl r22) ?_
 refine l_v (Ou rfl rfl (z:=(((d.heats.length:Nat):Int) - 1)) (Bo (by first | rfl | omega | (push_cast; rfl)) (by omega) (by omega))) ?_
 refine Arv (Bm (L0i) Tryz.func62 rfl rfl ⟨rfl,rfl,rfl,trivial⟩ ?_)
 refine l_v (Iy rfl) ?_
 refine l_v (Cp (v:=(.bool (!(inR s.heat 0 ((((d.heats.length:Nat):Int) - 1)))))) rfl) ?_
 refine l_k k18 ?_
 refine As (t:=!(inR s.heat 0 ((((d.heats.length:Nat):Int) - 1)))) rfl (fun b24=>?_) (fun b24=>?_)
 ·have b25:=not_eq_t b24
  have q25:=Tr.1 b25
  refine w_q rfl rfl fun K26 k26=>?_
  refine l_v (Cp (v:=(iV (6))) rfl) ?_
  refine l_k k26 ?_
  refine Aj (Asf (Asi l2 l3)) ?_
  refine Aq ?_
  refine hret _ _ _ ⟨rfl,rfl,Eq.trans (b:=(iV (6))) rfl ?_⟩
  simp only [L0n,b8,b11,b14,b17,b24,b25,Bool.true_and,Bool.false_and,Bool.and_true,Bool.and_false,Bool.true_or,Bool.false_or,Bool.or_true,Bool.or_false,Bool.not_true,Bool.not_false,if_true,Bool.false_eq_true,if_false]
 have b27:=not_eq_f b24
 have q27:=Fz.1 b27
 refine Al ?_
 apply k4
 refine w_q rfl rfl fun K28 k28=>?_
 refine l_v (Cp (v:=(iV (0))) rfl) ?_
 refine l_k k28 ?_
 refine Aj (Asf (Asi l2 l3)) ?_
 refine Aq ?_
 refine hret _ _ _ ⟨rfl,rfl,Eq.trans (b:=(iV (0))) rfl ?_⟩
 simp only [L0n,b8,b11,b14,b17,b24,b27,Bool.true_and,Bool.false_and,Bool.and_true,Bool.and_false,Bool.true_or,Bool.false_or,Bool.or_true,Bool.or_false,Bool.not_true,Bool.not_false,if_true,Bool.false_eq_true,if_false]
set_option maxRecDepth 100000 in
theorem L9n {mn:Bool} {X:Frame→List Frame→Ro→Own→Cy→Prop} {ρ:Ro} {σ:Own} {d:Drying} {vd:Value} (rd:Val ρ vd d):CallsH (CX mn X) 151 #[vd] ρ σ (fun w ρ' σ'=>ρ' = ρ∧σ' = σ∧w = (iV (L0v d))):=by
 refine Bh (n:=76) (args:=[vd]) [2] Tryz.func151 rfl rfl rfl rfl fun Q hret hnor=>?_
 refine w_q rfl rfl fun K1 k1=>?_
 refine Arv (Eb (v:=vd) rfl fun k2=>?_)
 refine Bb (a:=d) rd fun ρ2 l2 r2=>?_
 refine l_v (Cp (v:=(iV (0))) rfl) ?_
 refine Ary rfl rfl k1 fun K3 K4 k3 k4=>?_
 refine Arw (Ay Drying.f_heats Tryz.underlying59 rfl rfl L0k (by decide) rfl r2) fun v5 r5=>?_
 refine Arw (Ax L0k rfl r5) fun v6 r6=>?_
 have g7:=Val.len r6
 refine l_v (Ci (el:=152) Tryz.underlying54 rfl r6) ?_
 refine Arv (Bm (L0i) Tryz.func62 rfl rfl ⟨rfl,rfl,rfl,trivial⟩ ?_)
 refine l_v (Iy rfl) ?_
 refine l_k k4 ?_
 refine As (t:=!(inR (((d.heats.length:Nat):Int)) 1 4)) rfl (fun b8=>?_) (fun b8=>?_)
 ·have b9:=not_eq_t b8
  have q9:=Tr.1 b9
  refine w_q rfl rfl fun K10 k10=>?_
  refine l_v (Cp (v:=(iV (2))) rfl) ?_
  refine l_k k10 ?_
  refine Aj (Asf l2) ?_
  refine Aq ?_
  refine hret _ _ _ ⟨rfl,rfl,Eq.trans (b:=(iV (2))) rfl ?_⟩
  simp only [L0v,b8,b9,Bool.false_eq_true,if_false]
 have b11:=not_eq_f b8
 have q11:=Fz.1 b11
 refine Al ?_
 apply k3
 refine Asb rfl rfl fun K12 K13 k12 k13=>?_
 refine Arw (Ay Drying.f_heats Tryz.underlying59 rfl rfl L0k (by decide) rfl r2) fun v14 r14=>?_
 refine Arw (Ax L0k rfl r14) fun v15 r15=>?_
 have g16:=Val.len r15
 refine l_v (Ci (el:=152) Tryz.underlying54 rfl r15) ?_
 refine l_v (Ah (v:=(iV (0))) rfl) ?_
 refine l_k k13 ?_
 refine Ao ?_
 refine Cc (fun mm ee dd ρ' σ'=>∃ (i:Nat),(d.heats.length - i) = mm∧[] = dd∧ρ2 = ρ'∧σ = σ'∧ee 1 = (.pointer (some ⟨k2,0,none⟩))∧ee 14 = v15∧ee 15 = (iV (((d.heats.length:Nat):Int)))∧ee 16 = (iV ((i:Int)))∧(i ≤ d.heats.length)∧(∀ j,j < i→L0z d j = 0)∧True) (m:=_) ⟨0,rfl,rfl,rfl,rfl,rfl,rfl,rfl,rfl,(Nat.zero_le _),(fun j h=>absurd h (Nat.not_lt_zero _)),trivial⟩ ?_
 rintro m17 e17 _ _ _ ⟨i,rfl,rfl,rfl,rfl,h17_1,h17_14,h17_15,h17_16,p17_0,p17_1,_⟩
 refine w_q rfl rfl fun K18 k18=>?_
 refine l_v (Da h17_16 h17_15) ?_
 refine Asa k18 fun K19 k19=>?_
 refine As (t:=decide ((i:Int) < ((d.heats.length:Nat):Int))) rfl (fun b20=>?_) (fun b20=>?_)
 ·have q20:=of_decide_eq_true b20
  refine Al ?_
  apply k19
  refine Ai fun K21 k21=>?_
  refine Ao ?_
  refine w_q rfl rfl fun K22 k22=>?_
  obtain ⟨a24,ha24⟩:=Ed (xs:=d.heats) (i:=i) (by omega)
  refine Arw (Ch i Tryz.underlying54 L2c h17_14 r15 (q:=(i:Int)) h17_16 rfl ha24) fun v23 r23=>?_
  refine Arw (Ax L2c rfl r23) fun v25 r25=>?_
  refine Arv (Ct L8l fun k26=>?_)
  refine Cx rfl (Dv (v:=v25) (a:=a24) (c:=L8j) L2c rfl rfl r25 rfl ?_)
  refine Bb (a:=a24) r25 fun ρ27 l27 r27=>?_
  refine Arx rfl rfl k22 fun K28 k28=>?_
  refine Arw (Ay DryHeat.f_dries Tryz.underlying152 rfl rfl ty3 (by decide) rfl r27) fun v29 r29=>?_
  have ⟨g30a,g30b⟩:=At.rng r29
  refine l_v (Bc ty3 rfl r29) ?_
  refine Arv (Bm (L0i) Tryz.func62 rfl rfl ⟨rfl,rfl,rfl,trivial⟩ ?_)
  refine l_v (Iy rfl) ?_
  refine l_v (Ah (v:=(.bool (!(inR a24.dries 0 1000)))) rfl) ?_
  refine Cn (!(inR a24.dries 0 1000)) (fun b31=>?_) (fun b31=>?_)
  ·have b32:=not_eq_t b31
   have q32:=Tr.1 b32
   refine Ap (Bl rfl rfl rfl b31) ?_
   refine Ap (Bl rfl rfl rfl b31) ?_
   refine Ap (Bl rfl rfl rfl b31) ?_
   refine Ap (Bl rfl rfl rfl b31) ?_
   refine l_v (Bt rfl b31 (v:=(.bool (true))) rfl) ?_
   refine l_k k28 ?_
   refine Co rfl rfl ?_
   refine w_q rfl rfl fun K33 k33=>?_
   refine l_v (Cp (v:=(iV (1))) rfl) ?_
   refine l_k k33 ?_
   refine Aj (Asf (Asi l2 l27)) ?_
   refine Aq ?_
   refine hret _ _ _ ⟨rfl,rfl,Eq.trans (b:=(iV (1))) rfl ?_⟩
   rw [L0v,if_pos (Fz.2 q11)]
   have hf:L0z d i = 1:=by simp [L0z,ha24,b8,b11,b20,b31,b32,q11,q20,q32]
   rw [Db p17_1 (by omega) hf (by omega),Ry (by omega)]
  have b34:=not_eq_f b31
  have q34:=Fz.1 b34
  refine Ak (Ar rfl rfl rfl b31) (Ay DryHeat.f_burns Tryz.underlying152 rfl rfl ty3 (by decide) rfl r27) fun v35 r35=>?_
  have ⟨g36a,g36b⟩:=At.rng r35
  refine Aa (Ar rfl rfl rfl b31) (Bc ty3 rfl r35) ?_
  refine Ae (Ar rfl rfl rfl b31) (Bm (L0i) Tryz.func62 rfl rfl ⟨rfl,rfl,rfl,trivial⟩ ?_)
  refine Aa (Ar rfl rfl rfl b31) (Iy rfl) ?_
  refine l_v (Bn rfl b31 (v:=(.bool (!(inR a24.burns 0 1000)))) rfl) ?_
  refine l_k k28 ?_
  refine As (t:=!(inR a24.burns 0 1000)) rfl (fun b37=>?_) (fun b37=>?_)
  ·have b38:=not_eq_t b37
   have q38:=Tr.1 b38
   refine w_q rfl rfl fun K39 k39=>?_
   refine l_v (Cp (v:=(iV (1))) rfl) ?_
   refine l_k k39 ?_
   refine Aj (Asf (Asi l2 l27)) ?_
   refine Aq ?_
   refine hret _ _ _ ⟨rfl,rfl,Eq.trans (b:=(iV (1))) rfl ?_⟩
   rw [L0v,if_pos (Fz.2 q11)]
   have hf:L0z d i = 1:=by simp [L0z,ha24,b8,b11,b20,b31,b34,b37,b38,q11,q20,q34,q38]
   rw [Db p17_1 (by omega) hf (by omega),Ry (by omega)]
  have b40:=not_eq_f b37
  have q40:=Fz.1 b40
  refine Al ?_
  apply k21
  refine Ag rfl rfl ?_
  refine l_v (Br h17_16 rfl (z:=(((i + 1):Nat):Int)) (Bo (by first | rfl | omega | (push_cast; rfl)) (by omega) (by omega))) ?_
  refine l_v (Ah (v:=(iV ((((i + 1):Nat):Int)))) rfl) ?_
  refine Bj (Asf l27) ?_
  apply Ac
  refine ⟨_,?_,((i + 1)),rfl,rfl,rfl,rfl,h17_1,h17_14,h17_15,rfl,(by omega),(Eg p17_1 (by simp [L0z,ha24,b8,b11,b20,b31,b34,b37,b40,q11,q20,q34,q40])),trivial⟩
  omega
 have q20:=of_decide_eq_false b20
 refine Bx ?_
 apply k12
 refine Asb rfl rfl fun K41 K42 k41 k42=>?_
 refine Arw (Ay Drying.f_soak Tryz.underlying59 rfl rfl ty3 (by decide) h17_1 r2) fun v43 r43=>?_
 have ⟨g44a,g44b⟩:=At.rng r43
 refine l_v (Bc ty3 rfl r43) ?_
 refine Arv (Bm (L0i) Tryz.func62 rfl rfl ⟨rfl,rfl,rfl,trivial⟩ ?_)
 refine l_v (Iy rfl) ?_
 refine l_v (Ah (v:=(.bool (!(inR d.soak 0 1000)))) rfl) ?_
 refine Cn (!(inR d.soak 0 1000)) (fun b45=>?_) (fun b45=>?_)
 ·have b46:=not_eq_t b45
  have q46:=Tr.1 b46
  refine Ap (Bl rfl rfl rfl b45) ?_
  refine Ap (Bl rfl rfl rfl b45) ?_
  refine Ap (Bl rfl rfl rfl b45) ?_
  refine Ap (Bl rfl rfl rfl b45) ?_
  refine l_v (Bt rfl b45 (v:=(.bool (true))) rfl) ?_
  refine l_k k42 ?_
  refine Co rfl rfl ?_
  refine w_q rfl rfl fun K47 k47=>?_
  refine l_v (Cp (v:=(iV (1))) rfl) ?_
  refine l_k k47 ?_
  refine Aj (Asf l2) ?_
  refine Aq ?_
  refine hret _ _ _ ⟨rfl,rfl,Eq.trans (b:=(iV (1))) rfl ?_⟩
  rw [L0v,if_pos (Fz.2 q11)]
  rw [Fb fun j hj=>p17_1 j (by omega),Gr rfl]
  rw [if_neg (by simp [b8,b11,b20,b45,b46,q11,q20,q46])]
 have b48:=not_eq_f b45
 have q48:=Fz.1 b48
 refine Ak (Ar rfl rfl rfl b45) (Ay Drying.f_brittle Tryz.underlying59 rfl rfl ty3 (by decide) h17_1 r2) fun v49 r49=>?_
 have ⟨g50a,g50b⟩:=At.rng r49
 refine Aa (Ar rfl rfl rfl b45) (Bc ty3 rfl r49) ?_
 refine Ae (Ar rfl rfl rfl b45) (Bm (L0i) Tryz.func62 rfl rfl ⟨rfl,rfl,rfl,trivial⟩ ?_)
 refine Aa (Ar rfl rfl rfl b45) (Iy rfl) ?_
 refine l_v (Bn rfl b45 (v:=(.bool (!(inR d.brittle 0 5000)))) rfl) ?_
 refine l_k k42 ?_
 refine As (t:=!(inR d.brittle 0 5000)) rfl (fun b51=>?_) (fun b51=>?_)
 ·have b52:=not_eq_t b51
  have q52:=Tr.1 b52
  refine w_q rfl rfl fun K53 k53=>?_
  refine l_v (Cp (v:=(iV (1))) rfl) ?_
  refine l_k k53 ?_
  refine Aj (Asf l2) ?_
  refine Aq ?_
  refine hret _ _ _ ⟨rfl,rfl,Eq.trans (b:=(iV (1))) rfl ?_⟩
  rw [L0v,if_pos (Fz.2 q11)]
  rw [Fb fun j hj=>p17_1 j (by omega),Gr rfl]
  rw [if_neg (by simp [b8,b11,b20,b45,b48,b51,b52,q11,q20,q48,q52])]
 have b54:=not_eq_f b51
 have q54:=Fz.1 b54
 refine Al ?_
 apply k41
 refine Asb rfl rfl fun K55 K56 k55 k56=>?_
 refine Arw (Ax L0t h17_1 r2) fun v57 r57=>?_
 refine Arw (Ay Drying.f_start Tryz.underlying59 rfl rfl L0o (by decide) h17_1 r2) fun v58 r58=>?_
 refine Arw (Ax L0o rfl r58) fun v59 r59=>?_
 refine Arv (Bm (L7k r57 r59) Tryz.func177 rfl rfl ⟨rfl,rfl,trivial⟩ ?_)
 refine l_v (Cp (v:=(iV (L0n d d.start))) rfl) ?_
 refine Arx rfl rfl k56 fun K60 k60=>?_
 refine l_v (Ah (v:=(iV (L0n d d.start))) rfl) ?_
 refine l_v (Dg rfl rfl) ?_
 refine l_k k60 ?_
 refine As (t:=L0n d d.start != 0) rfl (fun b61=>?_) (fun b61=>?_)
 ·have q61:=Ls b61
  refine w_q rfl rfl fun K62 k62=>?_
  refine l_v (Ah (v:=(iV (L0n d d.start))) rfl) ?_
  refine l_v (Cp (v:=(iV (L0n d d.start))) rfl) ?_
  refine l_k k62 ?_
  refine Aj (Asf l2) ?_
  refine Aq ?_
  refine hret _ _ _ ⟨rfl,rfl,Eq.trans (b:=(iV (L0n d d.start))) rfl ?_⟩
  rw [L0v,if_pos (Fz.2 q11)]
  rw [Fb fun j hj=>p17_1 j (by omega),Gr rfl]
  rw [if_pos (by simp [b8,b11,b20,b45,b48,b51,b54,b61,q11,q20,q48,q54,q61])]
  rw [Ry q61]
 have q61:=Jh b61
 refine Al ?_
 apply k55
 refine Asb rfl rfl fun K63 K64 k63 k64=>?_
 refine Arw (Ay Drying.f_steps Tryz.underlying59 rfl rfl L0p (by decide) h17_1 r2) fun v65 r65=>?_
 refine Arw (Ax L0p rfl r65) fun v66 r66=>?_
 have g67:=Val.len r66
 refine l_v (Ci (el:=155) Tryz.underlying57 rfl r66) ?_
 refine l_v (Gl rfl rfl) ?_
 refine l_k k64 ?_
 refine As (t:=decide (((d.steps.length:Nat):Int) > 5)) rfl (fun b68=>?_) (fun b68=>?_)
 ·have q68:=of_decide_eq_true b68
  refine w_q rfl rfl fun K69 k69=>?_
  refine l_v (Cp (v:=(iV (2))) rfl) ?_
  refine l_k k69 ?_
  refine Aj (Asf l2) ?_
  refine Aq ?_
  refine hret _ _ _ ⟨rfl,rfl,Eq.trans (b:=(iV (2))) rfl ?_⟩
  rw [L0v,if_pos (Fz.2 q11)]
  rw [Fb fun j hj=>p17_1 j (by omega),Gr rfl]
  rw [if_pos (by simp [b8,b11,b20,b45,b48,b51,b54,b61,b68,q11,q20,q48,q54,q61,q68])]
  rw [Gr q61]
  rw [if_pos (by omega)]
 have q68:=of_decide_eq_false b68
 refine Al ?_
 apply k63
 refine Asb rfl rfl fun K70 K71 k70 k71=>?_
 refine Arw (Ay Drying.f_steps Tryz.underlying59 rfl rfl L0p (by decide) h17_1 r2) fun v72 r72=>?_
 refine Arw (Ax L0p rfl r72) fun v73 r73=>?_
 have g74:=Val.len r73
 refine l_v (Ci (el:=155) Tryz.underlying57 rfl r73) ?_
 refine l_v (Ah (v:=(iV (0))) rfl) ?_
 refine l_k k71 ?_
 refine Ao ?_
 refine Cc (fun mm ee dd ρ' σ'=>∃ (k:Nat),(d.steps.length - k) = mm∧[] = dd∧ρ2 = ρ'∧σ = σ'∧ee 53 = v73∧ee 54 = (iV (((d.steps.length:Nat):Int)))∧ee 55 = (iV ((k:Int)))∧(k ≤ d.steps.length)∧(∀ j,j < k→L0w d j = 0)∧True) (m:=_) ⟨0,rfl,rfl,rfl,rfl,rfl,rfl,rfl,(Nat.zero_le _),(fun j h=>absurd h (Nat.not_lt_zero _)),trivial⟩ ?_
 rintro m75 e75 _ _ _ ⟨k,rfl,rfl,rfl,rfl,h75_53,h75_54,h75_55,p75_0,p75_1,_⟩
 refine w_q rfl rfl fun K76 k76=>?_
 refine l_v (Da h75_55 h75_54) ?_
 refine Asa k76 fun K77 k77=>?_
 refine As (t:=decide ((k:Int) < ((d.steps.length:Nat):Int))) rfl (fun b78=>?_) (fun b78=>?_)
 ·have q78:=of_decide_eq_true b78
  refine Al ?_
  apply k77
  refine Ai fun K79 k79=>?_
  refine Ao ?_
  refine w_q rfl rfl fun K80 k80=>?_
  obtain ⟨a82,ha82⟩:=Ed (xs:=d.steps) (i:=k) (by omega)
  refine Arw (Ch k Tryz.underlying57 L0u h75_53 r73 (q:=(k:Int)) h75_55 rfl ha82) fun v81 r81=>?_
  refine Arw (Ax L0u rfl r81) fun v83 r83=>?_
  refine Arv (Ct L6d fun k84=>?_)
  refine Cx rfl (Dv (v:=v83) (a:=a82) (c:=L6c) L0u rfl rfl r83 rfl ?_)
  refine Bb (a:=a82) r83 fun ρ85 l85 r85=>?_
  refine Arx rfl rfl k80 fun K86 k86=>?_
  refine Arw (Ay DryStep.f_damp Tryz.underlying155 rfl rfl Mx (by decide) rfl r85) fun v87 r87=>?_
  refine Arw (Ax Mx rfl r87) fun v88 r88=>?_
  refine Arv (Bm (L3v r88) Tryz.func178 rfl rfl ⟨rfl,rfl,rfl,trivial⟩ ?_)
  refine l_v (Iy rfl) ?_
  refine l_v (Ah (v:=(.bool (!(Ef a82.damp 0 3)))) rfl) ?_
  refine Cn (!(Ef a82.damp 0 3)) (fun b89=>?_) (fun b89=>?_)
  ·have b90:=not_eq_t b89
   refine Ap (Bl rfl rfl rfl b89) ?_
   refine Ap (Bl rfl rfl rfl b89) ?_
   refine Ap (Bl rfl rfl rfl b89) ?_
   refine Ap (Bl rfl rfl rfl b89) ?_
   refine l_v (Bt rfl b89 (v:=(.bool (true))) rfl) ?_
   refine l_v (Ah (v:=(.bool (true))) rfl) ?_
   refine Ap (Bl rfl rfl rfl rfl) ?_
   refine Ap (Bl rfl rfl rfl rfl) ?_
   refine Ap (Bl rfl rfl rfl rfl) ?_
   refine Ap (Bl rfl rfl rfl rfl) ?_
   refine l_v (Bt rfl rfl (v:=(.bool (true))) rfl) ?_
   refine l_k k86 ?_
   refine Co rfl rfl ?_
   refine w_q rfl rfl fun K91 k91=>?_
   refine l_v (Cp (v:=(iV (1))) rfl) ?_
   refine l_k k91 ?_
   refine Aj (Asf (Asi l2 l85)) ?_
   refine Aq ?_
   refine hret _ _ _ ⟨rfl,rfl,Eq.trans (b:=(iV (1))) rfl ?_⟩
   rw [L0v,if_pos (Fz.2 q11)]
   rw [Fb fun j hj=>p17_1 j (by omega),Gr rfl]
   rw [if_pos (by simp [b8,b11,b20,b45,b48,b51,b54,b61,b68,b78,b89,b90,q11,q20,q48,q54,q61,q68,q78])]
   rw [Gr q61]
   rw [if_neg (by omega)]
   have hf:L0w d k = 1:=by simp [L0w,ha82,b8,b11,b20,b45,b48,b51,b54,b61,b68,b78,b89,b90,q11,q20,q48,q54,q61,q68,q78]
   rw [Db p75_1 (by omega) hf (by omega)]
  have b92:=not_eq_f b89
  refine Ak (Ar rfl rfl rfl b89) (Ay DryStep.f_water Tryz.underlying155 rfl rfl Mx (by decide) rfl r85) fun v93 r93=>?_
  refine Ak (Ar rfl rfl rfl b89) (Ax Mx rfl r93) fun v94 r94=>?_
  refine Ae (Ar rfl rfl rfl b89) (Bm (L3v r94) Tryz.func178 rfl rfl ⟨rfl,rfl,rfl,trivial⟩ ?_)
  refine Aa (Ar rfl rfl rfl b89) (Iy rfl) ?_
  refine l_v (Bn rfl b89 (v:=(.bool (!(Ef a82.water 0 5000)))) rfl) ?_
  refine l_v (Ah (v:=(.bool (!(Ef a82.water 0 5000)))) rfl) ?_
  refine Cn (!(Ef a82.water 0 5000)) (fun b95=>?_) (fun b95=>?_)
  ·have b96:=not_eq_t b95
   refine Ap (Bl rfl rfl rfl b95) ?_
   refine Ap (Bl rfl rfl rfl b95) ?_
   refine Ap (Bl rfl rfl rfl b95) ?_
   refine Ap (Bl rfl rfl rfl b95) ?_
   refine l_v (Bt rfl b95 (v:=(.bool (true))) rfl) ?_
   refine l_k k86 ?_
   refine Co rfl rfl ?_
   refine w_q rfl rfl fun K97 k97=>?_
   refine l_v (Cp (v:=(iV (1))) rfl) ?_
   refine l_k k97 ?_
   refine Aj (Asf (Asi l2 l85)) ?_
   refine Aq ?_
   refine hret _ _ _ ⟨rfl,rfl,Eq.trans (b:=(iV (1))) rfl ?_⟩
   rw [L0v,if_pos (Fz.2 q11)]
   rw [Fb fun j hj=>p17_1 j (by omega),Gr rfl]
   rw [if_pos (by simp [b8,b11,b20,b45,b48,b51,b54,b61,b68,b78,b89,b92,b95,b96,q11,q20,q48,q54,q61,q68,q78])]
   rw [Gr q61]
   rw [if_neg (by omega)]
   have hf:L0w d k = 1:=by simp [L0w,ha82,b8,b11,b20,b45,b48,b51,b54,b61,b68,b78,b89,b92,b95,b96,q11,q20,q48,q54,q61,q68,q78]
   rw [Db p75_1 (by omega) hf (by omega)]
  have b98:=not_eq_f b95
  refine Ak (Ar rfl rfl rfl b95) (Ay DryStep.f_colour Tryz.underlying155 rfl rfl ty3 (by decide) rfl r85) fun v99 r99=>?_
  have ⟨g100a,g100b⟩:=At.rng r99
  refine Aa (Ar rfl rfl rfl b95) (Bc ty3 rfl r99) ?_
  refine Ae (Ar rfl rfl rfl b95) (Bm (L0i) Tryz.func62 rfl rfl ⟨rfl,rfl,rfl,trivial⟩ ?_)
  refine Aa (Ar rfl rfl rfl b95) (Iy rfl) ?_
  refine l_v (Bn rfl b95 (v:=(.bool (!(inR a82.colour 0 1000)))) rfl) ?_
  refine l_k k86 ?_
  refine As (t:=!(inR a82.colour 0 1000)) rfl (fun b101=>?_) (fun b101=>?_)
  ·have b102:=not_eq_t b101
   have q102:=Tr.1 b102
   refine w_q rfl rfl fun K103 k103=>?_
   refine l_v (Cp (v:=(iV (1))) rfl) ?_
   refine l_k k103 ?_
   refine Aj (Asf (Asi l2 l85)) ?_
   refine Aq ?_
   refine hret _ _ _ ⟨rfl,rfl,Eq.trans (b:=(iV (1))) rfl ?_⟩
   rw [L0v,if_pos (Fz.2 q11)]
   rw [Fb fun j hj=>p17_1 j (by omega),Gr rfl]
   rw [if_pos (by simp [b8,b11,b20,b45,b48,b51,b54,b61,b68,b78,b89,b92,b95,b98,b101,b102,q11,q20,q48,q54,q61,q68,q78,q102])]
   rw [Gr q61]
   rw [if_neg (by omega)]
   have hf:L0w d k = 1:=by simp [L0w,ha82,b8,b11,b20,b45,b48,b51,b54,b61,b68,b78,b89,b92,b95,b98,b101,b102,q11,q20,q48,q54,q61,q68,q78,q102]
   rw [Db p75_1 (by omega) hf (by omega)]
  have b104:=not_eq_f b101
  have q104:=Fz.1 b104
  refine Al ?_
  apply k79
  refine Ag rfl rfl ?_
  refine l_v (Br h75_55 rfl (z:=(((k + 1):Nat):Int)) (Bo (by first | rfl | omega | (push_cast; rfl)) (by omega) (by omega))) ?_
  refine l_v (Ah (v:=(iV ((((k + 1):Nat):Int)))) rfl) ?_
  refine Bj (Asf l85) ?_
  apply Ac
  refine ⟨_,?_,((k + 1)),rfl,rfl,rfl,rfl,h75_53,h75_54,rfl,(by omega),(Eg p75_1 (by simp [L0w,ha82,b8,b11,b20,b45,b48,b51,b54,b61,b68,b78,b89,b92,b95,b98,b101,b104,q11,q20,q48,q54,q61,q68,q78,q104])),trivial⟩
  omega
 have q78:=of_decide_eq_false b78
 refine Bx ?_
 apply k70
 refine w_q rfl rfl fun K105 k105=>?_
 refine l_v (Cp (v:=(iV (0))) rfl) ?_
 refine l_k k105 ?_
 refine Aj (Asf l2) ?_
 refine Aq ?_
 refine hret _ _ _ ⟨rfl,rfl,Eq.trans (b:=(iV (0))) rfl ?_⟩
 rw [L0v,if_pos (Fz.2 q11)]
 rw [Fb fun j hj=>p17_1 j (by omega),Gr rfl]
 rw [if_pos (by simp [b8,b11,b20,b45,b48,b51,b54,b61,b68,b78,q11,q20,q48,q54,q61,q68,q78])]
 rw [Gr q61]
 rw [if_neg (by omega)]
 rw [Fb fun j hj=>p75_1 j (by omega)]
set_option maxRecDepth 100000 in
theorem L9p {mn:Bool} {X:Frame→List Frame→Ro→Own→Cy→Prop} {ρ:Ro} {σ:Own} {x:Stage} {vx:Value} {was heat:Int} (rx:Val ρ vx x) (hw:-100 ≤ was∧was ≤ 100) (hh:0 ≤ x.heats∧x.heats ≤ 100):CallsH (CX mn X) 152 #[vx,(iV (was)),(iV (heat))] ρ σ (fun w ρ' σ'=>ρ' = ρ∧σ' = σ∧w = (.bool (L1j x.heats x.window.step.tended was heat))):=by
 refine Bh (n:=34) (args:=[vx,(iV (was)),(iV (heat))]) [6] Tryz.func152 rfl rfl rfl rfl fun Q hret hnor=>?_
 refine w_q rfl rfl fun K1 k1=>?_
 refine Arv (Eb (v:=vx) rfl fun k2=>?_)
 refine Bb (a:=x) rx fun ρ2 l2 r2=>?_
 refine l_v (Cp (v:=(.bool (false))) rfl) ?_
 refine Ary rfl rfl k1 fun K3 K4 k3 k4=>?_
 refine l_v (Ah (v:=(iV (heat))) rfl) ?_
 refine Arw (Ay Stage.f_heats Tryz.underlying167 rfl rfl ty3 (by decide) rfl r2) fun v5 r5=>?_
 have ⟨g6a,g6b⟩:=At.rng r5
 refine l_v (Bc ty3 rfl r5) ?_
 refine l_v (Ou rfl rfl (z:=(x.heats - 1)) (Bo (by rfl) (by omega) (by omega))) ?_
 refine Arv (Bm (L0i) Tryz.func62 rfl rfl ⟨rfl,rfl,rfl,trivial⟩ ?_)
 refine l_v (Iy rfl) ?_
 refine l_k k4 ?_
 refine As (t:=!(inR heat 0 ((x.heats - 1)))) rfl (fun b7=>?_) (fun b7=>?_)
 ·have b8:=not_eq_t b7
  have q8:=Tr.1 b8
  refine w_q rfl rfl fun K9 k9=>?_
  refine l_v (Cp (v:=(.bool (false))) rfl) ?_
  refine l_k k9 ?_
  refine Aj (Asf l2) ?_
  refine Aq ?_
  refine hret _ _ _ ⟨rfl,rfl,Eq.trans (b:=(.bool (false))) rfl ?_⟩
  simp only [L1j,b7,b8,Bool.true_and,Bool.false_and,Bool.and_true,Bool.and_false,Bool.true_or,Bool.false_or,Bool.or_true,Bool.or_false,Bool.not_true,Bool.not_false]
 have b10:=not_eq_f b7
 have q10:=Fz.1 b10
 refine Al ?_
 apply k3
 refine w_q rfl rfl fun K11 k11=>?_
 refine l_v (Ah (v:=(iV (heat))) rfl) ?_
 refine l_v (Ah (v:=(iV (was))) rfl) ?_
 refine l_v (Ek rfl rfl) ?_
 refine l_v (Ah (v:=(.bool (heat == was))) rfl) ?_
 refine Cn (heat == was) (fun b12=>?_) (fun b12=>?_)
 ·have q12:=Jr b12
  refine Ap (Bl rfl rfl rfl b12) ?_
  refine Ap (Bl rfl rfl rfl b12) ?_
  refine Ap (Bl rfl rfl rfl b12) ?_
  refine Ap (Bl rfl rfl rfl b12) ?_
  refine Ap (Bl rfl rfl rfl b12) ?_
  refine Ap (Jf rfl rfl rfl) ?_
  refine Ap (Jf rfl rfl rfl) ?_
  refine Ap (Jf rfl rfl rfl) ?_
  refine Ap (Jf rfl rfl rfl) ?_
  refine Ap (Jf rfl rfl rfl) ?_
  refine Ap (Jf rfl rfl rfl) ?_
  refine Ap (Jf rfl rfl rfl) ?_
  refine Ap (Jf rfl rfl rfl) ?_
  refine Ap (Jf rfl rfl rfl) ?_
  refine Ap (Jf rfl rfl rfl) ?_
  refine Ap (Bl rfl rfl rfl b12) ?_
  refine l_v (Bt rfl b12 (v:=(.bool (true))) rfl) ?_
  refine l_v (Cp (v:=(.bool (true))) rfl) ?_
  refine l_k k11 ?_
  refine Aj (Asf l2) ?_
  refine Aq ?_
  refine hret _ _ _ ⟨rfl,rfl,Eq.trans (b:=(.bool (true))) rfl ?_⟩
  simp only [L1j,b7,b10,b12,Bool.true_and,Bool.false_and,Bool.and_true,Bool.and_false,Bool.true_or,Bool.false_or,Bool.or_true,Bool.or_false,Bool.not_true,Bool.not_false]
 have q12:=Jq b12
 refine Ak (Ar rfl rfl rfl b12) (Ay Stage.f_window Tryz.underlying167 rfl rfl L2w (by decide) rfl r2) fun v13 r13=>?_
 refine Ak (Ar rfl rfl rfl b12) (Ay DWindow.f_step Tryz.underlying165 rfl rfl L0u (by decide) rfl r13) fun v14 r14=>?_
 refine Ak (Ar rfl rfl rfl b12) (Ay DryStep.f_tended Tryz.underlying155 rfl rfl ty4 (by decide) rfl r14) fun v15 r15=>?_
 refine Aa (Ar rfl rfl rfl b12) (Nx ty4 rfl r15) ?_
 refine l_M (.bool (x.window.step.tended)) (Ar rfl rfl rfl b12) rfl ?_
 refine Cn (x.window.step.tended) (fun b17=>?_) (fun b17=>?_)
 ·refine Aa (Ar rfl rfl rfl b17) (Ah (v:=(iV (heat))) rfl) ?_
  refine l_M (iV (was)) (Ar rfl rfl rfl b17) rfl ?_
  refine Aa (Ar rfl rfl rfl b17) (Ou rfl rfl (z:=(was - 1)) (Bo (by rfl) (by omega) (by omega))) ?_
  refine Aa (Ar rfl rfl rfl b17) (Ek rfl rfl) ?_
  refine l_M (.bool (heat == (was - 1))) (Ar rfl rfl rfl b17) rfl ?_
  refine Cn (heat == (was - 1)) (fun b18=>?_) (fun b18=>?_)
  ·have q18:=Jr b18
   refine Ap (Bl rfl rfl rfl b18) ?_
   refine Ap (Bl rfl rfl rfl b18) ?_
   refine Ap (Bl rfl rfl rfl b18) ?_
   refine Ap (Bl rfl rfl rfl b18) ?_
   refine Aa (Ar rfl rfl rfl b17) (Bt rfl b18 (v:=(.bool (true))) rfl) ?_
   refine Aa (Ar rfl rfl rfl b12) (Bt rfl b17 (v:=(.bool (true))) rfl) ?_
   refine l_v (Bn rfl b12 (v:=(.bool (true))) rfl) ?_
   refine l_v (Cp (v:=(.bool (true))) rfl) ?_
   refine l_k k11 ?_
   refine Aj (Asf l2) ?_
   refine Aq ?_
   refine hret _ _ _ ⟨rfl,rfl,Eq.trans (b:=(.bool (true))) rfl ?_⟩
   simp only [L1j,b7,b10,b12,b17,b18,Bool.true_and,Bool.false_and,Bool.and_true,Bool.and_false,Bool.true_or,Bool.false_or,Bool.or_true,Bool.or_false,Bool.not_true,Bool.not_false]
  have q18:=Jq b18
  refine l_M (iV (heat)) (Ar rfl rfl rfl b18) rfl ?_
  refine l_M (iV (was)) (Ar rfl rfl rfl b18) rfl ?_
  refine Aa (Ar rfl rfl rfl b18) (Br rfl rfl (z:=(was + 1)) (Bo (by rfl) (by omega) (by omega))) ?_
  refine Aa (Ar rfl rfl rfl b18) (Ek rfl rfl) ?_
  refine Aa (Ar rfl rfl rfl b17) (Bn rfl b18 (v:=(.bool (heat == (was + 1)))) rfl) ?_
  refine Aa (Ar rfl rfl rfl b12) (Bt rfl b17 (v:=(.bool (heat == (was + 1)))) rfl) ?_
  refine l_v (Bn rfl b12 (v:=(.bool (heat == (was + 1)))) rfl) ?_
  refine l_v (Cp (v:=(.bool (heat == (was + 1)))) rfl) ?_
  refine l_k k11 ?_
  refine Aj (Asf l2) ?_
  refine Aq ?_
  refine hret _ _ _ ⟨rfl,rfl,Eq.trans (b:=(.bool (heat == (was + 1)))) rfl ?_⟩
  simp only [L1j,b7,b10,b12,b17,b18,Bool.true_and,Bool.false_and,Bool.and_true,Bool.and_false,Bool.true_or,Bool.false_or,Bool.or_true,Bool.or_false,Bool.not_true,Bool.not_false]
 refine Ap (Bl rfl rfl rfl b17) ?_
 refine Ap (Bl rfl rfl rfl b17) ?_
 refine Ap (Bl rfl rfl rfl b17) ?_
 refine Ap (Bl rfl rfl rfl b17) ?_
 refine Ap (Bl rfl rfl rfl b17) ?_
 refine Ap (Jf rfl rfl rfl) ?_
 refine Ap (Jf rfl rfl rfl) ?_
 refine Ap (Jf rfl rfl rfl) ?_
 refine Ap (Jf rfl rfl rfl) ?_
 refine Ap (Bl rfl rfl rfl b17) ?_
 refine Aa (Ar rfl rfl rfl b12) (Bn rfl b17 (v:=(.bool (false))) rfl) ?_
 refine l_v (Bn rfl b12 (v:=(.bool (false))) rfl) ?_
 refine l_v (Cp (v:=(.bool (false))) rfl) ?_
 refine l_k k11 ?_
 refine Aj (Asf l2) ?_
 refine Aq ?_
 refine hret _ _ _ ⟨rfl,rfl,Eq.trans (b:=(.bool (false))) rfl ?_⟩
 simp only [L1j,b7,b10,b12,b17,Bool.true_and,Bool.false_and,Bool.and_true,Bool.and_false,Bool.true_or,Bool.false_or,Bool.or_true,Bool.or_false,Bool.not_true,Bool.not_false]
set_option maxRecDepth 100000 in
theorem L8s {mn:Bool} {X:Frame→List Frame→Ro→Own→Cy→Prop} {ρ:Ro} {σ:Own} {d:Drying} {vd:Value} (rd:Val ρ vd d) (hd:L0v d = 0):CallsH (CX mn X) 113 #[vd] ρ σ (fun w ρ' σ'=>Ro.le ρ ρ'∧σ' = σ∧∃ v,w = (.tuple #[v,.int .i64 0])∧At ρ' v (L1b d)):=by
 have ok:=L3i hd
 have hn5:=ok.n5
 refine Bh (n:=40) (args:=[vd]) [2,3] Tryz.func113 rfl rfl rfl rfl fun Q hret hnor=>?_
 refine w_q rfl rfl fun K1 k1=>?_
 refine Arv (Eb (v:=vd) rfl fun k2=>?_)
 refine Bb (a:=d) rd fun ρ2 l2 r2=>?_
 refine l_v (Cp (v:=(.pointer none)) rfl) ?_
 refine l_v (Cp (v:=(iV (0))) rfl) ?_
 refine Ary rfl rfl k1 fun K3 K4 k3 k4=>?_
 refine Arw (Ax L0t rfl r2) fun v5 r5=>?_
 refine Arv (Bm (L9n r5) Tryz.func151 rfl rfl ⟨rfl,trivial⟩ ?_)
 refine l_v (Cp (v:=(iV (L0v d))) rfl) ?_
 refine Arx rfl rfl k4 fun K6 k6=>?_
 refine l_v (Ah (v:=(iV (L0v d))) rfl) ?_
 refine l_v (Dg rfl rfl) ?_
 refine l_k k6 ?_
 refine As (t:=L0v d != 0) rfl (fun b7=>?_) (fun b7=>?_)
 ·have q7:=Ls b7
  refine w_q rfl rfl fun K8 k8=>?_
  refine l_v (Ah (v:=(iV (L0v d))) rfl) ?_
  refine l_v (Cp (v:=(.pointer none)) rfl) ?_
  refine l_v (Cp (v:=(iV (L0v d))) rfl) ?_
  refine l_k k8 ?_
  refine Aq ?_
  refine hret _ _ _ ?_
  exact absurd hd q7
 have q7:=Jh b7
 refine Al ?_
 apply k3
 refine w_q rfl rfl fun K9 k9=>?_
 refine Arw (Ax L0t rfl r2) fun v10 r10=>?_
 obtain ⟨c11_0,c11_1,e11_,i11_1,⟨i11_2a,i11_2b⟩,⟨i11_3a,i11_3b⟩,⟨i11_4a,i11_4b⟩,⟨i11_5a,i11_5b⟩,⟨i11_6a,i11_6b⟩,i11_7⟩:=Drying.open_ r10
 have e11_c:v10.cells = [c11_0,(iV (d.soak)),(iV (d.brittle)),(iV (d.start.water)),(iV (d.start.colour)),(iV (d.start.heat)),c11_1].toArray:=by rw [e11_]; rfl
 have r12:Val ρ2 (.agg #[c11_0,(iV (d.soak)),(iV (d.brittle)),(iV (d.start.water)),(iV (d.start.colour)),(iV (d.start.heat)),c11_1,(.slice none 0 0)]) (⟨(⟨d.heats,d.soak,d.brittle,(⟨d.start.water,d.start.colour,d.start.heat⟩:DryState),d.steps⟩:Drying),[]⟩:Stove):=Stove.shut (x:=(⟨(⟨d.heats,d.soak,d.brittle,(⟨d.start.water,d.start.colour,d.start.heat⟩:DryState),d.steps⟩:Drying),[]⟩:Stove)) i11_1 (show I64 (d.soak) from by constructor <;> omega) (show I64 (d.brittle) from by constructor <;> omega) (show I64 (d.start.water) from by constructor <;> omega) (show I64 (d.start.colour) from by constructor <;> omega) (show I64 (d.start.heat) from by constructor <;> omega) i11_7 Gx
 refine l_v (Dn (ns:=[7,1]) (vs:=[(0,v10)]) (zc:=L9y) (cs:=[c11_0,(iV (d.soak)),(iV (d.brittle)),(iV (d.start.water)),(iV (d.start.colour)),(iV (d.start.heat)),c11_1,(.slice none 0 0)]) Tryz.underlying170 M0b rfl ⟨⟨_,Ab Tryz.typeInfo59,rfl⟩,⟨_,Ab Tryz.typeInfo168,rfl⟩,trivial⟩ (EvB.map ⟨⟨rfl,rfl⟩,trivial⟩) ((Be (cs:=[c11_0,(iV (d.soak)),(iV (d.brittle)),(iV (d.start.water)),(iV (d.start.colour)),(iV (d.start.heat)),c11_1]) e11_c rfl (Nat.le_of_ble_eq_true rfl)).trans rfl)) ?_
 refine Arv (Eb (v:=(.agg #[c11_0,(iV (d.soak)),(iV (d.brittle)),(iV (d.start.water)),(iV (d.start.colour)),(iV (d.start.heat)),c11_1,(.slice none 0 0)])) rfl fun k13=>?_)
 refine l_v (Cp (v:=(.pointer (some ⟨k13,0,none⟩))) rfl) ?_
 refine Ary rfl rfl k9 fun K14 K15 k14 k15=>?_
 refine Arw (Ay Drying.f_steps Tryz.underlying59 rfl rfl L0p (by decide) rfl r2) fun v16 r16=>?_
 refine Arw (Ax L0p rfl r16) fun v17 r17=>?_
 have g18:=Val.len r17
 refine l_v (Ci (el:=155) Tryz.underlying57 rfl r17) ?_
 refine l_v (Ah (v:=(iV (0))) rfl) ?_
 refine l_k k15 ?_
 refine Ao ?_
 refine Cc (fun mm ee dd ρ' σ'=>∃ (i:Nat) (ov19_5c7:Value) (og19_5c7:Own),(d.steps.length - i) = mm∧[] = dd∧Ro.le ρ2 ρ'∧(og19_5c7 ++ ((k13,oC #[c11_0,(iV (d.soak)),(iV (d.brittle)),(iV (d.start.water)),(iV (d.start.colour)),(iV (d.start.heat)),c11_1,ov19_5c7] 170) :: σ)) = σ'∧ee 1 = (.pointer (some ⟨k2,0,none⟩))∧ee 5 = (.pointer (some ⟨k13,0,none⟩))∧ee 17 = v17∧ee 18 = (iV (((d.steps.length:Nat):Int)))∧ee 19 = (iV ((i:Int)))∧(i ≤ d.steps.length)∧Grow ρ' 167 ov19_5c7 ((L1n d i).stages) og19_5c7∧True) (m:=_) ⟨0,(.slice none 0 0),[],rfl,rfl,Ash,rfl,rfl,rfl,rfl,rfl,rfl,(Nat.zero_le _),(Fy (by simp [L1n]) Hm),trivial⟩ ?_
 rintro m19 e19 _ ρ19 _ ⟨i,ov19_5c7,og19_5c7,rfl,rfl,l19,rfl,h19_1,h19_5,h19_17,h19_18,h19_19,p19_0,OG19_5c7,_⟩
 replace r2:=At.mono l19 r2
 replace i11_1:=Asj l19 i11_1
 replace i11_7:=Asj l19 i11_7
 replace r17:=Asj l19 r17
 refine w_q rfl rfl fun K20 k20=>?_
 refine l_v (Da h19_19 h19_18) ?_
 refine Asa k20 fun K21 k21=>?_
 refine As (t:=decide ((i:Int) < ((d.steps.length:Nat):Int))) rfl (fun b22=>?_) (fun b22=>?_)
 ·have q22:=of_decide_eq_true b22
  refine Al ?_
  apply k21
  refine Ai fun K23 k23=>?_
  refine Ao ?_
  refine w_q rfl rfl fun K24 k24=>?_
  obtain ⟨a26,ha26⟩:=Ed (xs:=d.steps) (i:=i) (by omega)
  refine Arw (Ch i Tryz.underlying57 L0u h19_17 r17 (q:=(i:Int)) h19_19 rfl ha26) fun v25 r25=>?_
  refine Arw (Ax L0u rfl r25) fun v27 r27=>?_
  refine Arv (Ct L6d fun k28=>?_)
  refine Cx rfl (Dv (v:=v27) (a:=a26) (c:=L6c) L0u rfl rfl r27 rfl ?_)
  refine Bb (a:=a26) r27 fun ρ29 l29 r29=>?_
  replace r2:=At.mono l29 r2
  replace OG19_5c7:=Grow.mono l29 OG19_5c7
  refine l_k k24 ?_
  refine L1o (((k13,oC #[c11_0,(iV (d.soak)),(iV (d.brittle)),(iV (d.start.water)),(iV (d.start.colour)),(iV (d.start.heat)),c11_1,ov19_5c7] 170) :: [])) [0,1,2,3,4,5,6,7,8,9,10,11,12,14] (by kernel_rfl) rfl rfl ?_
  refine L0q (i:=0) Aqz rfl (by kernel_rfl) rfl ⟨Ash,(by repeat first | exact L0e | refine L0b ?_ | refine L0c ?_ | refine L0a ?_ | refine L0d ?_)⟩ rfl (Yld.o (Ah (v:=(.pointer (some ⟨k13,0,none⟩))) h19_5)) ?_
  refine L0q (i:=1) Ara rfl (by kernel_rfl) rfl ⟨Ash,(by repeat first | exact L0e | refine L0b ?_ | refine L0c ?_ | refine L0a ?_ | refine L0d ?_)⟩ rfl (Yld.o (Ah (v:=(.pointer (some ⟨k13,0,none⟩))) h19_5)) ?_
  refine L0q (i:=2) Arb rfl (by kernel_rfl) rfl ⟨Ash,(by repeat first | exact L0e | refine L0b ?_ | refine L0c ?_ | refine L0a ?_ | refine L0d ?_)⟩ rfl (Yld.o (Ck rfl)) ?_
  refine L0q (i:=3) Arc rfl (by kernel_rfl) rfl ⟨Ash,(by repeat first | exact L0e | refine L0b ?_ | refine L0c ?_ | refine L0a ?_ | refine L0d ?_)⟩ rfl (Yld.o (Cb Tryz.underlying170 rfl rfl ⟨_,Ab Tryz.typeInfo168,rfl⟩ (by decide) rfl rfl)) ?_
  refine L0q (i:=4) Ard rfl (by kernel_rfl) rfl ⟨Ash,(by repeat first | exact L0e | refine L0b ?_ | refine L0c ?_ | refine L0a ?_ | refine L0d ?_)⟩ rfl (L1c (v:=ov19_5c7) ⟨_,Tryz.underlying168,rfl⟩ rfl (List.mem_cons_self ..) rfl) ?_
  refine L2j (i:=5) Are rfl (by kernel_rfl) rfl ⟨Ash,(by repeat first | exact L0e | refine L0b ?_ | refine L0c ?_ | refine L0a ?_ | refine L0d ?_)⟩ rfl (L1d (Ax L0u rfl r29)) fun v30 r30=>?_
  obtain ⟨e31_,⟨i31_1a,i31_1b⟩,⟨i31_2a,i31_2b⟩,⟨i31_4a,i31_4b⟩,⟨i31_5a,i31_5b⟩,⟨i31_6a,i31_6b⟩⟩:=DryStep.open_ r30
  have e31_c:v30.cells = [(iV (a26.damp.low)),(iV (a26.damp.high)),(.bool (a26.tended)),(iV (a26.water.low)),(iV (a26.water.high)),(iV (a26.colour))].toArray:=by rw [e31_]; rfl
  have r32:Val ρ29 (.agg #[(iV (a26.damp.low)),(iV (a26.damp.high)),(.bool (a26.tended)),(iV (a26.water.low)),(iV (a26.water.high)),(iV (a26.colour))]) (⟨(⟨⟨a26.damp.low,a26.damp.high⟩,a26.tended,⟨a26.water.low,a26.water.high⟩,a26.colour⟩:DryStep)⟩:DWindow):=DWindow.shut (x:=(⟨(⟨⟨a26.damp.low,a26.damp.high⟩,a26.tended,⟨a26.water.low,a26.water.high⟩,a26.colour⟩:DryStep)⟩:DWindow)) (show I64 (a26.damp.low) from by constructor <;> omega) (show I64 (a26.damp.high) from by constructor <;> omega) (show I64 (a26.water.low) from by constructor <;> omega) (show I64 (a26.water.high) from by constructor <;> omega) (show I64 (a26.colour) from by constructor <;> omega)
  refine L0q (i:=6) Arf rfl (by kernel_rfl) rfl ⟨Ash,(by repeat first | exact L0e | refine L0b ?_ | refine L0c ?_ | refine L0a ?_ | refine L0d ?_)⟩ rfl (Yld.o (Dn (ns:=[6]) (vs:=[(0,v30)]) (zc:=L9x) (cs:=[(iV (a26.damp.low)),(iV (a26.damp.high)),(.bool (a26.tended)),(iV (a26.water.low)),(iV (a26.water.high)),(iV (a26.colour))]) Tryz.underlying165 M0a rfl ⟨⟨_,Ab Tryz.typeInfo155,rfl⟩,trivial⟩ (EvB.map ⟨⟨rfl,rfl⟩,trivial⟩) ((Be (cs:=[(iV (a26.damp.low)),(iV (a26.damp.high)),(.bool (a26.tended)),(iV (a26.water.low)),(iV (a26.water.high)),(iV (a26.colour))]) e31_c rfl (Nat.le_of_ble_eq_true rfl)).trans rfl))) ?_
  refine L1u (i:=7) Anr rfl (by kernel_rfl) rfl ⟨Ash,(by repeat first | exact L0e | refine L0b ?_ | refine L0c ?_ | refine L0a ?_ | refine L0d ?_)⟩ rfl (L1d (Ay Drying.f_heats Tryz.underlying59 rfl rfl L0k (by decide) h19_1 r2)) ⟨Ash,(by repeat first | exact L0e | refine L0b ?_ | refine L0c ?_ | refine L0a ?_ | refine L0d ?_)⟩ fun v33 r33=>?_
  refine L1u (i:=8) Ans rfl (by kernel_rfl) rfl ⟨Ash,(by repeat first | exact L0e | refine L0b ?_ | refine L0c ?_ | refine L0a ?_ | refine L0d ?_)⟩ rfl (L1d (Ax L0k rfl r33)) ⟨Ash,(by repeat first | exact L0e | refine L0b ?_ | refine L0c ?_ | refine L0a ?_ | refine L0d ?_)⟩ fun v34 r34=>?_
  have g35:=Val.len r34
  refine L0j (i:=9) Ant rfl (by kernel_rfl) rfl ⟨Ash,(by repeat first | exact L0e | refine L0b ?_ | refine L0c ?_ | refine L0a ?_ | refine L0d ?_)⟩ rfl (Yld.o (Ci (el:=152) Tryz.underlying54 rfl r34)) ⟨Ash,(by repeat first | exact L0e | refine L0b ?_ | refine L0c ?_ | refine L0a ?_ | refine L0d ?_)⟩ ?_
  have r36:Val ρ29 (.agg #[(iV (a26.damp.low)),(iV (a26.damp.high)),(.bool (a26.tended)),(iV (a26.water.low)),(iV (a26.water.high)),(iV (a26.colour)),(iV (((d.heats.length:Nat):Int)))]) (⟨(⟨(⟨⟨a26.damp.low,a26.damp.high⟩,a26.tended,⟨a26.water.low,a26.water.high⟩,a26.colour⟩:DryStep)⟩:DWindow),((d.heats.length:Nat):Int)⟩:Stage):=Stage.shut (x:=(⟨(⟨(⟨⟨a26.damp.low,a26.damp.high⟩,a26.tended,⟨a26.water.low,a26.water.high⟩,a26.colour⟩:DryStep)⟩:DWindow),((d.heats.length:Nat):Int)⟩:Stage)) (show I64 (a26.damp.low) from by constructor <;> omega) (show I64 (a26.damp.high) from by constructor <;> omega) (show I64 (a26.water.low) from by constructor <;> omega) (show I64 (a26.water.high) from by constructor <;> omega) (show I64 (a26.colour) from by constructor <;> omega) (show I64 (((d.heats.length:Nat):Int)) from by constructor <;> omega)
  refine L0j (i:=10) [o1,o1,o1,o1,o1,o1,o1,o1,o1,o1,o1,o0,o0,o0,o0,o0] rfl (by kernel_rfl) rfl ⟨Ash,(by repeat first | exact L0e | refine L0b ?_ | refine L0c ?_ | refine L0a ?_ | refine L0d ?_)⟩ rfl (Yld.o (Dn (ns:=[6,1]) (vs:=[(0,(.agg #[(iV (a26.damp.low)),(iV (a26.damp.high)),(.bool (a26.tended)),(iV (a26.water.low)),(iV (a26.water.high)),(iV (a26.colour))])),(1,(iV (((d.heats.length:Nat):Int))))]) (zc:=L8k) (cs:=[(iV (a26.damp.low)),(iV (a26.damp.high)),(.bool (a26.tended)),(iV (a26.water.low)),(iV (a26.water.high)),(iV (a26.colour)),(iV (((d.heats.length:Nat):Int)))]) Tryz.underlying167 L6e rfl ⟨⟨_,Ab Tryz.typeInfo165,rfl⟩,⟨_,Ab Tryz.typeInfo3,rfl⟩,trivial⟩ (EvB.map ⟨⟨rfl,rfl⟩,⟨rfl,rfl⟩,trivial⟩) ((Be (cs:=[(iV (a26.damp.low)),(iV (a26.damp.high)),(.bool (a26.tended)),(iV (a26.water.low)),(iV (a26.water.high)),(iV (a26.colour))]) rfl rfl (Nat.le_of_ble_eq_true rfl)).trans ((Be (cs:=[(iV (((d.heats.length:Nat):Int)))]) rfl rfl (Nat.le_of_ble_eq_true rfl)).trans rfl)))) ⟨Ash,(by repeat first | exact L0e | refine L0b ?_ | refine L0c ?_ | refine L0a ?_ | refine L0d ?_)⟩ ?_
  refine L2s (i:=11) [o1,o1,o1,o1,o1,o1,o1,o1,o1,o1,o1,o1,o0,o0,o0,o0] rfl (by kernel_rfl) rfl rfl (Bi (α:=Stage) (xs:=[(⟨(⟨(⟨⟨a26.damp.low,a26.damp.high⟩,a26.tended,⟨a26.water.low,a26.water.high⟩,a26.colour⟩:DryStep)⟩:DWindow),((d.heats.length:Nat):Int)⟩:Stage)]) (vs:=[(.agg #[(iV (a26.damp.low)),(iV (a26.damp.high)),(.bool (a26.tended)),(iV (a26.water.low)),(iV (a26.water.high)),(iV (a26.colour)),(iV (((d.heats.length:Nat):Int)))])]) Tryz.underlying168 L2k L6e rfl (by decide) (Dk (os:=[.tmp 33]) ⟨rfl,trivial⟩) ⟨r36,trivial⟩ rfl (by decide) fun k37 cs37 R37=>⟨⟨Ash,(by repeat first | exact L0e | refine L0b ?_ | refine L0c ?_ | refine L0a ?_ | refine L0d ?_)⟩,?_⟩)
  have G37:Grow ρ29 167 (.slice (some ⟨k37,0,none⟩) 1 1) ([(⟨(⟨(⟨⟨a26.damp.low,a26.damp.high⟩,a26.tended,⟨a26.water.low,a26.water.high⟩,a26.colour⟩:DryStep)⟩:DWindow),((d.heats.length:Nat):Int)⟩:Stage)]:List Stage) [(k37,oC cs37.toArray 167)]:=Bs R37 rfl (by decide)
  refine L2u G37 (by repeat first | exact L0e | refine L0b ?_ | refine L0c ?_ | refine L0a ?_ | refine L0d ?_) fun ρ39 l39 r39=>?_
  replace OG19_5c7:=Grow.mono l39 OG19_5c7
  refine L2s (i:=12) Anu rfl (by kernel_rfl) rfl rfl (Gc (σ:=((k13,oC #[c11_0,(iV (d.soak)),(iV (d.brittle)),(iV (d.start.water)),(iV (d.start.colour)),(iV (d.start.heat)),c11_1,ov19_5c7] 170) :: σ)) (gr:=og19_5c7) (xs:=(L1n d i).stages) (ys:=([(⟨(⟨(⟨⟨a26.damp.low,a26.damp.high⟩,a26.tended,⟨a26.water.low,a26.water.high⟩,a26.colour⟩:DryStep)⟩:DWindow),((d.heats.length:Nat):Int)⟩:Stage)]:List Stage)) Tryz.underlying168 Tryz.underlying168 (Ab Tryz.typeInfo167) rfl (Nat.le_of_ble_eq_true rfl) rfl rfl rfl rfl OG19_5c7 r39 (by simp only [List.length_append,List.length_cons,List.length_nil,L1n,List.length_map,List.length_take] at *; omega) fun v38 gr38 G38=>⟨⟨l39,(by repeat first | exact L0e | refine L0b ?_ | refine L0c ?_ | refine L0a ?_ | refine L0d ?_)⟩,?_⟩)
  refine L0j (i:=13) Anv rfl (by kernel_rfl) rfl ⟨l39,(by repeat first | exact L0e | refine L0b ?_ | refine L0c ?_ | refine L0a ?_ | refine L0d ?_)⟩ rfl (Yld.o (Ck rfl)) ⟨Ash,(by repeat first | exact L0e | refine L0b ?_ | refine L0c ?_ | refine L0a ?_ | refine L0d ?_)⟩ ?_
  refine L0j (i:=14) Anw rfl (by kernel_rfl) rfl ⟨l39,(by repeat first | exact L0e | refine L0b ?_ | refine L0c ?_ | refine L0a ?_ | refine L0d ?_)⟩ rfl (Yld.o (Cb Tryz.underlying170 rfl rfl ⟨_,Ab Tryz.typeInfo168,rfl⟩ (by decide) rfl rfl)) ⟨Ash,(by repeat first | exact L0e | refine L0b ?_ | refine L0c ?_ | refine L0a ?_ | refine L0d ?_)⟩ ?_
  refine L5w Asd ?_
  refine L1t (i:=15) Anx rfl (by kernel_rfl) (by kernel_rfl) rfl rfl (Cz (j:=0) (v:=v38) ⟨_,Ab Tryz.typeInfo168,rfl⟩ rfl rfl (Grow.single G38) rfl (Nat.le_of_ble_eq_true rfl) ?_)
  refine L2r rfl ?_
  apply k23
  refine Ag rfl rfl ?_
  refine l_v (Br h19_19 rfl (z:=(((i + 1):Nat):Int)) (Bo (by first | rfl | omega | (push_cast; rfl)) (by omega) (by omega))) ?_
  refine l_v (Ah (v:=(iV ((((i + 1):Nat):Int)))) rfl) ?_
  refine Bj (Asg Asc) ?_
  apply Ac
  refine ⟨_,?_,((i + 1)),v38,gr38,rfl,rfl,(Asi (Asi l19 l29) l39),rfl,h19_1,h19_5,h19_17,h19_18,rfl,(by omega),(Fy (by unfold L1n; rw [Tw ha26]) G38),trivial⟩
  omega
 have q22:=of_decide_eq_false b22
 refine Bx ?_
 apply k14
 refine w_q rfl rfl fun K40 k40=>?_
 refine l_v (Ah (v:=(.pointer (some ⟨k13,0,none⟩))) h19_5) ?_
 refine l_v (Cp (v:=(.pointer (some ⟨k13,0,none⟩))) rfl) ?_
 refine l_v (Cp (v:=(iV (0))) rfl) ?_
 refine l_k k40 ?_
 refine Hc OG19_5c7 fun ρ41 l41 r41=>?_
 replace i11_1:=Asj l41 i11_1
 replace i11_7:=Asj l41 i11_7
 have r42:Val ρ41 (.agg #[c11_0,(iV (d.soak)),(iV (d.brittle)),(iV (d.start.water)),(iV (d.start.colour)),(iV (d.start.heat)),c11_1,ov19_5c7]) (⟨(⟨d.heats,d.soak,d.brittle,(⟨d.start.water,d.start.colour,d.start.heat⟩:DryState),d.steps⟩:Drying),(L1n d i).stages⟩:Stove):=Stove.shut (x:=(⟨(⟨d.heats,d.soak,d.brittle,(⟨d.start.water,d.start.colour,d.start.heat⟩:DryState),d.steps⟩:Drying),(L1n d i).stages⟩:Stove)) i11_1 (show I64 (d.soak) from by constructor <;> omega) (show I64 (d.brittle) from by constructor <;> omega) (show I64 (d.start.water) from by constructor <;> omega) (show I64 (d.start.colour) from by constructor <;> omega) (show I64 (d.start.heat) from by constructor <;> omega) i11_7 r41
 refine Nt (a:=(⟨(⟨d.heats,d.soak,d.brittle,(⟨d.start.water,d.start.colour,d.start.heat⟩:DryState),d.steps⟩:Drying),(L1n d i).stages⟩:Stove)) r42 fun ρ43 l43 r43=>?_
 refine Aq ?_
 refine hret _ _ _ ?_
 refine ⟨(Asi (Asi (Asi l2 l19) l41) l43),rfl,(.pointer (some ⟨k13,0,none⟩)),Eq.trans (b:=.tuple #[(.pointer (some ⟨k13,0,none⟩)),.int .i64 0]) (Mp (r:=2) (r':=3) (rs:=[]) (v:=(.pointer (some ⟨k13,0,none⟩))) (v':=.int .i64 0) (vs:=[]) ⟨rfl,rfl,trivial⟩) rfl,At.cast ?_ r43⟩
 rw [show i = d.steps.length by omega]; rfl
set_option maxRecDepth 100000 in
theorem L4x {mn:Bool} {X:Frame→List Frame→Ro→Own→Cy→Prop} {ρ:Ro} {σ:Own} {d:Drying} {vo:Value} {plan:List Int} {vp:Value} (ro:At ρ vo (L1b d)) (rp:Val ρ vp plan) (ok:DryOk d):CallsH (CX mn X) 114 #[vo,vp] ρ σ (fun w ρ' σ'=>ρ' = ρ∧σ' = σ∧w = (iV (L1k d plan))):=by
 have hn5:=ok.n5
 have hn4:=ok.n4
 have hn1:=ok.n1
 have hst:=ok.start
 have hsl0:=L0x (d:=d)
 refine Bh (n:=54) (args:=[vo,vp]) [4] Tryz.func114 rfl rfl rfl rfl fun Q hret hnor=>?_
 refine w_q rfl rfl fun K1 k1=>?_
 refine l_v (Cp (v:=(iV (0))) rfl) ?_
 refine Ary rfl rfl k1 fun K2 K3 k2 k3=>?_
 refine l_v (Ah (v:=vp) rfl) ?_
 have g4:=Val.len rp
 refine l_v (Ci (el:=3) Tryz.underlying49 rfl rp) ?_
 refine l_v (Ah (v:=vo) rfl) ?_
 refine l_v (Hj rfl ro) ?_
 refine Arw (Ay Stove.f_stages Tryz.underlying170 rfl rfl L2d (by decide) rfl ro) fun v5 r5=>?_
 refine Arw (Ax L2d rfl r5) fun v6 r6=>?_
 have g7:=Val.len r6
 refine l_v (Ci (el:=167) Tryz.underlying168 rfl r6) ?_
 refine l_v (Dg rfl rfl) ?_
 refine l_k k3 ?_
 refine As (t:=((plan.length:Nat):Int) != (((((L1b d)).stages).length:Nat):Int)) rfl (fun b8=>?_) (fun b8=>?_)
 ·have q8:=Ls b8
  refine w_q rfl rfl fun K9 k9=>?_
  refine l_v (Cp (v:=(iV (2))) rfl) ?_
  refine l_k k9 ?_
  refine Aq ?_
  refine hret _ _ _ ⟨rfl,rfl,Eq.trans (b:=(iV (2))) rfl ?_⟩
  rw [L1k,if_neg (by have:=L0x (d:=d); omega)]
 have q8:=Jh b8
 refine Al ?_
 apply k2
 refine w_q rfl rfl fun K10 k10=>?_
 refine l_v (Ah (v:=vo) rfl) ?_
 refine l_v (Hj rfl ro) ?_
 refine Arw (Ay Stove.f_d Tryz.underlying170 rfl rfl L0t (by decide) rfl ro) fun v11 r11=>?_
 refine Arw (Ay Drying.f_start Tryz.underlying59 rfl rfl L0o (by decide) rfl r11) fun v12 r12=>?_
 refine Arw (Ay DryState.f_heat Tryz.underlying56 rfl rfl ty3 (by decide) rfl r12) fun v13 r13=>?_
 have ⟨g14a,g14b⟩:=At.rng r13
 refine l_v (Bc ty3 rfl r13) ?_
 refine l_v (Cp (v:=(iV (d.start.heat))) rfl) ?_
 refine Ary rfl rfl k10 fun K15 K16 k15 k16=>?_
 refine l_v (Ah (v:=vp) rfl) ?_
 have g17:=Val.len rp
 refine l_v (Ci (el:=3) Tryz.underlying49 rfl rp) ?_
 refine l_v (Ah (v:=(iV (0))) rfl) ?_
 refine l_k k16 ?_
 refine Ao ?_
 refine Cc (fun mm ee dd ρ' σ'=>∃ (i:Nat) (was:Int),(plan.length - i) = mm∧[] = dd∧ρ = ρ'∧σ = σ'∧ee 0 = vo∧ee 22 = vp∧ee 23 = (iV (((plan.length:Nat):Int)))∧ee 5 = (iV (was))∧ee 24 = (iV ((i:Int)))∧(i ≤ plan.length)∧(∀ j,j < i→L1v d plan j = 0)∧(was = L5n d plan i)∧(0 ≤ was∧was ≤ (d.heats.length:Int) - 1)∧True) (m:=_) ⟨0,d.start.heat,rfl,rfl,rfl,rfl,rfl,rfl,rfl,rfl,rfl,(Nat.zero_le _),(fun j h=>absurd h (Nat.not_lt_zero _)),rfl,(by omega),trivial⟩ ?_
 rintro m18 e18 _ _ _ ⟨i,was,rfl,rfl,rfl,rfl,h18_0,h18_22,h18_23,h18_5,h18_24,p18_0,p18_1,p18_2,p18_3,_⟩
 have hsl:=L0x (d:=d)
 refine w_q rfl rfl fun K19 k19=>?_
 refine l_v (Da h18_24 h18_23) ?_
 refine Asa k19 fun K20 k20=>?_
 refine As (t:=decide ((i:Int) < ((plan.length:Nat):Int))) rfl (fun b21=>?_) (fun b21=>?_)
 ·have q21:=of_decide_eq_true b21
  refine Al ?_
  apply k20
  refine Ai fun K22 k22=>?_
  refine Ao ?_
  refine w_q rfl rfl fun K23 k23=>?_
  refine l_v (Ah (v:=(iV ((i:Int)))) h18_24) ?_
  obtain ⟨a25,ha25⟩:=Ed (xs:=plan) (i:=i) (by omega)
  refine Arw (Ch i Tryz.underlying49 ty3 h18_22 rp (q:=(i:Int)) h18_24 rfl ha25) fun v24 r24=>?_
  have ⟨g26a,g26b⟩:=At.rng r24
  refine l_v (Bc ty3 rfl r24) ?_
  refine l_v (Cp (v:=(iV ((i:Int)))) rfl) ?_
  refine l_v (Cp (v:=(iV (a25))) rfl) ?_
  refine Asa k23 fun K27 k27=>?_
  refine Ao ?_
  refine w_q rfl rfl fun K28 k28=>?_
  refine l_v (Ah (v:=(iV (a25))) rfl) ?_
  refine l_v (Ah (v:=vo) h18_0) ?_
  refine l_v (Hj rfl ro) ?_
  refine Arw (Ay Stove.f_d Tryz.underlying170 rfl rfl L0t (by decide) rfl ro) fun v29 r29=>?_
  refine Arw (Ay Drying.f_heats Tryz.underlying59 rfl rfl L0k (by decide) rfl r29) fun v30 r30=>?_
  refine Arw (Ax L0k rfl r30) fun v31 r31=>?_
  have g32:=Val.len r31
  refine l_v (Ci (el:=152) Tryz.underlying54 rfl r31) ?_
  refine l_v (Ou rfl rfl (z:=(((d.heats.length:Nat):Int) - 1)) (Bo (by first | rfl | omega | (push_cast; rfl)) (by omega) (by omega))) ?_
  refine Arv (Bm (L0i) Tryz.func62 rfl rfl ⟨rfl,rfl,rfl,trivial⟩ ?_)
  refine l_v (Iy rfl) ?_
  refine l_v (Cp (v:=(.bool (!(inR a25 0 ((((d.heats.length:Nat):Int) - 1)))))) rfl) ?_
  refine l_k k28 ?_
  refine As (t:=!(inR a25 0 ((((d.heats.length:Nat):Int) - 1)))) rfl (fun b33=>?_) (fun b33=>?_)
  ·have b34:=not_eq_t b33
   have q34:=Tr.1 b34
   refine w_q rfl rfl fun K35 k35=>?_
   refine l_v (Cp (v:=(iV (6))) rfl) ?_
   refine l_k k35 ?_
   refine Aq ?_
   refine hret _ _ _ ⟨rfl,rfl,Eq.trans (b:=(iV (6))) rfl ?_⟩
   have hf:L1v d plan i = 6:=by
    have hga:plan.getD i 0 = a25:=by rw [List.getD_eq_getElem?_getD,ha25]; rfl
    unfold L1v; rw [hga,← p18_2]
    simp only [b8,b21,b33,b34,if_true,Bool.false_eq_true,if_false]
   rw [L1k,if_pos (by have:=L0x (d:=d); omega),Db p18_1 (by omega) hf (by omega)]
  have b36:=not_eq_f b33
  have q36:=Fz.1 b36
  refine w_q rfl rfl fun K37 k37=>?_
  refine l_v (Ah (v:=vo) h18_0) ?_
  refine l_v (Hj rfl ro) ?_
  refine Arw (Ay Stove.f_stages Tryz.underlying170 rfl rfl L2d (by decide) rfl ro) fun v38 r38=>?_
  refine Arw (Ax L2d rfl r38) fun v39 r39=>?_
  refine l_v (Ah (v:=(iV ((i:Int)))) rfl) ?_
  obtain ⟨a41,ha41⟩:=Ed (xs:=((L1b d)).stages) (i:=i) (by omega)
  obtain ⟨y_a41,hy_a41,he_a41⟩:=L3n ha41
  subst he_a41
  refine Arw (Ch i Tryz.underlying168 L2k rfl r39 (q:=(i:Int)) rfl rfl ha41) fun v40 r40=>?_
  refine Arw (Ax L2k rfl r40) fun v42 r42=>?_
  refine l_v (Ah (v:=(iV (was))) h18_5) ?_
  refine l_v (Ah (v:=(iV (a25))) rfl) ?_
  refine Arv (Bm (L9p r42 (by omega) (by simp only; omega)) Tryz.func152 rfl rfl ⟨rfl,rfl,rfl,trivial⟩ ?_)
  refine l_v (Iy rfl) ?_
  refine l_v (Cp (v:=(.bool (!(L1j ((⟨(⟨y_a41⟩:DWindow),((d.heats.length:Nat):Int)⟩:Stage)).heats ((⟨(⟨y_a41⟩:DWindow),((d.heats.length:Nat):Int)⟩:Stage)).window.step.tended was a25)))) rfl) ?_
  refine l_k k37 ?_
  refine As (t:=!(L1j ((⟨(⟨y_a41⟩:DWindow),((d.heats.length:Nat):Int)⟩:Stage)).heats ((⟨(⟨y_a41⟩:DWindow),((d.heats.length:Nat):Int)⟩:Stage)).window.step.tended was a25)) rfl (fun b43=>?_) (fun b43=>?_)
  ·have b44:=not_eq_t b43
   refine w_q rfl rfl fun K45 k45=>?_
   refine l_v (Cp (v:=(iV (7))) rfl) ?_
   refine l_k k45 ?_
   refine Aq ?_
   refine hret _ _ _ ⟨rfl,rfl,Eq.trans (b:=(iV (7))) rfl ?_⟩
   have hf:L1v d plan i = 7:=by
    have hga:plan.getD i 0 = a25:=by rw [List.getD_eq_getElem?_getD,ha25]; rfl
    unfold L1v; rw [hga,← p18_2]
    simp only [L2b,hy_a41,b8,b21,b33,b36,b43,b44,if_true,Bool.false_eq_true,if_false]
   rw [L1k,if_pos (by have:=L0x (d:=d); omega),Db p18_1 (by omega) hf (by omega)]
  have b46:=not_eq_f b43
  refine Al ?_
  apply k27
  refine Ag rfl rfl ?_
  refine l_v (Ah (v:=(iV (a25))) rfl) ?_
  refine l_v (Cp (v:=(iV (a25))) rfl) ?_
  refine l_k k22 ?_
  refine Ag rfl rfl ?_
  refine l_v (Br h18_24 rfl (z:=(((i + 1):Nat):Int)) (Bo (by first | rfl | omega | (push_cast; rfl)) (by omega) (by omega))) ?_
  refine l_v (Ah (v:=(iV ((((i + 1):Nat):Int)))) rfl) ?_
  apply Ac
  refine ⟨_,?_,((i + 1)),(a25),rfl,rfl,rfl,rfl,h18_0,h18_22,h18_23,rfl,rfl,(by omega),(Eg p18_1 (by
 have hga:plan.getD i 0 = a25:=by rw [List.getD_eq_getElem?_getD,ha25]; rfl
 unfold L1v; rw [hga,← p18_2]
 simp only [L2b,hy_a41,b8,b21,b33,b36,b43,b46,if_true,Bool.false_eq_true,if_false])),(by unfold L5n; rw [if_neg (by omega),show i + 1 - 1 = i by omega,List.getD_eq_getElem?_getD,ha25]; rfl),q36,trivial⟩
  omega
 have q21:=of_decide_eq_false b21
 refine Bx ?_
 apply k15
 refine w_q rfl rfl fun K47 k47=>?_
 refine l_v (Cp (v:=(iV (0))) rfl) ?_
 refine l_k k47 ?_
 refine Aq ?_
 refine hret _ _ _ ⟨rfl,rfl,Eq.trans (b:=(iV (0))) rfl ?_⟩
 rw [L1k,if_pos (by have:=L0x (d:=d); omega),Fb fun j hj=>p18_1 j (by omega)]
set_option maxRecDepth 100000 in
theorem L3w {mn:Bool} {X:Frame→List Frame→Ro→Own→Cy→Prop} {ρ:Ro} {σ:Own} {d:Drying} {vd:Value} {plan:List Int} {vp:Value} (rd:Val ρ vd d) (rp:Val ρ vp plan) (hd:L0v d = 0) (hp:L1k d plan = 0):CallsH (CX mn X) 60 #[vd,vp] ρ σ (fun w ρ' σ'=>Ro.le ρ ρ'∧σ' = σ∧∃ v,w = (.tuple #[v,.int .i64 0])∧At ρ' v (L1b d)):=by
 have ok:=L3i hd
 refine Bh (n:=20) (args:=[vd,vp]) [4,5] Tryz.func60 rfl rfl rfl rfl fun Q hret hnor=>?_
 refine w_q rfl rfl fun K1 k1=>?_
 refine Arv (Eb (v:=vd) rfl fun k2=>?_)
 refine Bb (a:=d) rd fun ρ2 l2 r2=>?_
 replace rp:=Asj l2 rp
 refine l_v (Cp (v:=(.pointer none)) rfl) ?_
 refine l_v (Cp (v:=(iV (0))) rfl) ?_
 refine Arx rfl rfl k1 fun K3 k3=>?_
 refine Arw (Ax L0t rfl r2) fun v4 r4=>?_
 refine Arv (Cm (vs:=[v4]) (L8s r4 hd) Tryz.func113 rfl rfl ⟨rfl,trivial⟩ fun w5 ρ5 σ5 hc5=>?_)
 obtain ⟨l5,s5,v5,hw5,r5⟩:=hc5
 replace s5:=s5.symm; subst s5 hw5
 replace rp:=Asj l5 rp
 refine l_v (Ah (v:=(.tuple #[v5,(iV (0))])) rfl) ?_
 refine l_v (Bk (vs:=#[v5,(iV (0))]) rfl (v:=v5) rfl) ?_
 refine l_v (Bk (vs:=#[v5,(iV (0))]) rfl (v:=(iV (0))) rfl) ?_
 refine l_v (Cp (v:=v5) rfl) ?_
 refine l_v (Cp (v:=(iV (0))) rfl) ?_
 refine Ary rfl rfl k3 fun K6 K7 k6 k7=>?_
 refine l_v (Ah (v:=(iV (0))) rfl) ?_
 refine l_v (Ek rfl rfl) ?_
 refine l_k k7 ?_
 refine Co rfl rfl ?_
 refine Ag rfl rfl ?_
 refine l_v (Ah (v:=v5) rfl) ?_
 refine l_v (Ah (v:=vp) rfl) ?_
 refine Arv (Bm (L4x r5 rp ok) Tryz.func114 rfl rfl ⟨rfl,rfl,trivial⟩ ?_)
 refine l_v (Cp (v:=(iV (L1k d plan))) rfl) ?_
 refine Arx rfl rfl k6 fun K8 k8=>?_
 refine l_v (Ah (v:=v5) rfl) ?_
 refine l_v (Ah (v:=(iV (L1k d plan))) rfl) ?_
 refine l_v (Cp (v:=v5) rfl) ?_
 refine l_v (Cp (v:=(iV (L1k d plan))) rfl) ?_
 refine l_k k8 ?_
 refine Aq ?_
 refine hret _ _ _ ?_
 refine ⟨(Asi l2 l5),rfl,v5,Eq.trans (b:=.tuple #[v5,.int .i64 0]) (Mp (r:=4) (r':=5) (rs:=[]) (v:=v5) (v':=.int .i64 0) (vs:=[]) ⟨rfl,(rfl.trans (by rw [hp]; rfl)),trivial⟩) rfl,r5⟩
set_option maxRecDepth 100000 in
theorem L8r {mn:Bool} {X:Frame→List Frame→Ro→Own→Cy→Prop} {ρ:Ro} {σ:Own} {x:DWindow} {vx vs:Value} {s:DryState} (rx:Val ρ vx x) (rs:Val ρ vs s):CallsH (CX mn X) 116 #[vx,vs] ρ σ (fun w ρ' σ'=>ρ' = ρ∧σ' = σ∧w = (.bool (L2y x s))):=by
 refine Bh (n:=24) (args:=[vx,vs]) [4] Tryz.func116 rfl rfl rfl rfl fun Q hret hnor=>?_
 refine w_q rfl rfl fun K1 k1=>?_
 refine Arv (Eb (v:=vx) rfl fun k2=>?_)
 refine Bb (a:=x) rx fun ρ2 l2 r2=>?_
 replace rs:=Asj l2 rs
 refine Arv (Eb (v:=vs) rfl fun k3=>?_)
 refine Bb (a:=s) rs fun ρ3 l3 r3=>?_
 replace r2:=At.mono l3 r2
 refine l_v (Cp (v:=(.bool (false))) rfl) ?_
 refine Arx rfl rfl k1 fun K4 k4=>?_
 refine Arw (Ay DryState.f_water Tryz.underlying56 rfl rfl ty3 (by decide) rfl r3) fun v5 r5=>?_
 have ⟨g6a,g6b⟩:=At.rng r5
 refine l_v (Bc ty3 rfl r5) ?_
 refine Arw (Ay DWindow.f_step Tryz.underlying165 rfl rfl L0u (by decide) rfl r2) fun v7 r7=>?_
 refine Arw (Ay DryStep.f_water Tryz.underlying155 rfl rfl Mx (by decide) rfl r7) fun v8 r8=>?_
 refine Arw (Ay Span.f_low Tryz.underlying41 rfl rfl ty3 (by decide) rfl r8) fun v9 r9=>?_
 have ⟨g10a,g10b⟩:=At.rng r9
 refine l_v (Bc ty3 rfl r9) ?_
 refine Arw (Ay DWindow.f_step Tryz.underlying165 rfl rfl L0u (by decide) rfl r2) fun v11 r11=>?_
 refine Arw (Ay DryStep.f_water Tryz.underlying155 rfl rfl Mx (by decide) rfl r11) fun v12 r12=>?_
 refine Arw (Ay Span.f_high Tryz.underlying41 rfl rfl ty3 (by decide) rfl r12) fun v13 r13=>?_
 have ⟨g14a,g14b⟩:=At.rng r13
 refine l_v (Bc ty3 rfl r13) ?_
 refine Arv (Bm (L0i) Tryz.func62 rfl rfl ⟨rfl,rfl,rfl,trivial⟩ ?_)
 refine l_v (Ah (v:=(.bool (inR s.water x.step.water.low x.step.water.high))) rfl) ?_
 refine Cn (inR s.water x.step.water.low x.step.water.high) (fun b15=>?_) (fun b15=>?_)
 ·have q15:=Fz.1 b15
  refine Ak (Ar rfl rfl rfl b15) (Ay DryState.f_colour Tryz.underlying56 rfl rfl ty3 (by decide) rfl r3) fun v16 r16=>?_
  have ⟨g17a,g17b⟩:=At.rng r16
  refine Aa (Ar rfl rfl rfl b15) (Bc ty3 rfl r16) ?_
  refine Ak (Ar rfl rfl rfl b15) (Ay DWindow.f_step Tryz.underlying165 rfl rfl L0u (by decide) rfl r2) fun v18 r18=>?_
  refine Ak (Ar rfl rfl rfl b15) (Ay DryStep.f_colour Tryz.underlying155 rfl rfl ty3 (by decide) rfl r18) fun v19 r19=>?_
  have ⟨g20a,g20b⟩:=At.rng r19
  refine Aa (Ar rfl rfl rfl b15) (Bc ty3 rfl r19) ?_
  refine Aa (Ar rfl rfl rfl b15) (Uy rfl rfl) ?_
  refine l_v (Bt rfl b15 (v:=(.bool (decide (s.colour ≥ x.step.colour)))) rfl) ?_
  refine l_v (Cp (v:=(.bool (decide (s.colour ≥ x.step.colour)))) rfl) ?_
  refine l_k k4 ?_
  refine Aj (Asf (Asi l2 l3)) ?_
  refine Aq ?_
  refine hret _ _ _ ⟨rfl,rfl,Eq.trans (b:=(.bool (decide (s.colour ≥ x.step.colour)))) rfl ?_⟩
  simp only [L2y,b15,Bool.true_and,Bool.false_and,Bool.and_true,Bool.and_false,Bool.true_or,Bool.false_or,Bool.or_true,Bool.or_false,Bool.not_true,Bool.not_false]
 have q15:=Tr.1 b15
 refine Ap (Bl rfl rfl rfl b15) ?_
 refine Ap (Bl rfl rfl rfl b15) ?_
 refine Ap (Bl rfl rfl rfl b15) ?_
 refine Ap (Bl rfl rfl rfl b15) ?_
 refine Ap (Bl rfl rfl rfl b15) ?_
 refine Ap (Bl rfl rfl rfl b15) ?_
 refine l_v (Bn rfl b15 (v:=(.bool (false))) rfl) ?_
 refine l_v (Cp (v:=(.bool (false))) rfl) ?_
 refine l_k k4 ?_
 refine Aj (Asf (Asi l2 l3)) ?_
 refine Aq ?_
 refine hret _ _ _ ⟨rfl,rfl,Eq.trans (b:=(.bool (false))) rfl ?_⟩
 simp only [L2y,b15,Bool.true_and,Bool.false_and,Bool.and_true,Bool.and_false,Bool.true_or,Bool.false_or,Bool.or_true,Bool.or_false,Bool.not_true,Bool.not_false]
set_option maxRecDepth 100000 in
theorem L7v {x:DWindow} {ρ₀:Ro} {vc:Value} (hc:At ρ₀ vc x) (hx:0 ≤ x.step.damp.low∧x.step.damp.low ≤ x.step.damp.high∧x.step.damp.high ≤ 3):IterF (.func (.func 153) #[] #[vc]) ρ₀ ((L1p x.step.damp).map (fun x:Int=>Value.int .i64 x)):=by
 refine ⟨153,_,[vc],rfl,Tryz.func153,rfl,rfl,?_⟩
 intro mn X l I ρ σ hle hmono hI hy
 replace hc:=hc.mono hle
 have hnd:nD x.step.damp = (x.step.damp.high - x.step.damp.low + 1).toNat:=rfl
 refine Bh (n:=20) (args:=[(.func (.yield l) #[] #[]),vc]) [] Tryz.func153 rfl rfl rfl rfl fun Q hret hnor=>?_
 refine w_q rfl rfl fun K1 k1=>?_
 refine Arw (Ay DWindow.f_step Tryz.underlying165 rfl rfl L0u (by decide) rfl hc) fun v2 r2=>?_
 refine Arw (Ay DryStep.f_damp Tryz.underlying155 rfl rfl Mx (by decide) rfl r2) fun v3 r3=>?_
 refine Arw (Ay Span.f_low Tryz.underlying41 rfl rfl ty3 (by decide) rfl r3) fun v4 r4=>?_
 have ⟨g5a,g5b⟩:=At.rng r4
 refine l_v (Bc ty3 rfl r4) ?_
 refine l_v (Cp (v:=(iV (x.step.damp.low))) rfl) ?_
 refine l_k k1 ?_
 refine Ao ?_
 refine Cc (fun mm ee dd ρ' σ'=>∃ (z:Int) (σb6:Own),((x.step.damp.high + 1 - z).toNat) = mm∧[] = dd∧Ro.le ρ ρ'∧σb6 = σ'∧ee 0 = (.func (.yield l) #[] #[])∧ee 1 = vc∧ee 3 = (iV (z))∧(x.step.damp.low ≤ z∧z ≤ x.step.damp.high + 1)∧I ((L1e x.step.damp (z - x.step.damp.low).toNat).map (fun x:Int=>Value.int .i64 x)) ρ' σb6∧True) (m:=_) ⟨x.step.damp.low,σ,rfl,rfl,Ash,rfl,rfl,rfl,rfl,(by omega),(Yp (by rw [show (x.step.damp.low - x.step.damp.low).toNat = 0 by omega]; rfl) hI),trivial⟩ ?_
 rintro m6 e6 _ ρ6 _ ⟨z,σb6,rfl,rfl,l6,rfl,h6_0,h6_1,h6_3,p6_0,IB6,_⟩
 replace hc:=At.mono l6 hc
 refine Asb rfl rfl fun K7 K8 k7 k8=>?_
 refine l_v (Ah (v:=(iV (z))) h6_3) ?_
 refine Arw (Ay DWindow.f_step Tryz.underlying165 rfl rfl L0u (by decide) h6_1 hc) fun v9 r9=>?_
 refine Arw (Ay DryStep.f_damp Tryz.underlying155 rfl rfl Mx (by decide) rfl r9) fun v10 r10=>?_
 refine Arw (Ay Span.f_high Tryz.underlying41 rfl rfl ty3 (by decide) rfl r10) fun v11 r11=>?_
 have ⟨g12a,g12b⟩:=At.rng r11
 refine l_v (Bc ty3 rfl r11) ?_
 refine l_v (Uz rfl rfl) ?_
 refine l_k k8 ?_
 refine As (t:=decide (z ≤ x.step.damp.high)) rfl (fun b13=>?_) (fun b13=>?_)
 ·have q13:=of_decide_eq_true b13
  refine Al ?_
  apply k7
  refine Ai fun K14 k14=>?_
  refine Ao ?_
  refine w_q rfl rfl fun K15 k15=>?_
  refine l_v (Ah (v:=(.func (.yield l) #[] #[])) h6_0) ?_
  refine l_v (Ah (v:=(iV (z))) h6_3) ?_
  have hjz:x.step.damp.low + (((z - x.step.damp.low).toNat:Nat):Int) = z:=by omega
  refine Arv (Xr (v:=(iV (z))) rfl rfl (hy ((L1e x.step.damp (z - x.step.damp.low).toNat).map (fun x:Int=>Value.int .i64 x)) (iV (z)) (((List.range' ((z - x.step.damp.low).toNat + 1) (nD x.step.damp - 1 - (z - x.step.damp.low).toNat)).map fun j=>x.step.damp.low + ((j:Nat):Int)).map (fun x:Int=>Value.int .i64 x)) _ _ (by unfold L1p; rw [L3t (show (z - x.step.damp.low).toNat < nD x.step.damp by omega),List.map_append,List.map_cons,hjz]) l6 IB6) fun w16 ρ16 σ16 hc16=>?_)
  obtain ⟨hw16,l16,I16⟩:=hc16
  subst hw16
  refine l_v (Iy rfl) ?_
  refine l_k k15 ?_
  refine Cg rfl (not_t rfl) ?_
  refine Al ?_
  apply k14
  refine Ag rfl rfl ?_
  refine l_v (Ah (v:=(iV (z))) h6_3) ?_
  refine l_v (Br rfl rfl (z:=(z + 1)) (Bo (by rfl) (by omega) (by omega))) ?_
  refine l_v (Cp (v:=(iV ((z + 1)))) rfl) ?_
  apply Ac
  refine ⟨_,?_,((z + 1)),σ16,rfl,rfl,(Asi l6 l16),rfl,h6_0,h6_1,rfl,(by omega),(Yp (by rw [show (z + 1 - x.step.damp.low).toNat = (z - x.step.damp.low).toNat + 1 by omega,L4j,List.map_append,hjz]; rfl) I16),trivial⟩
  omega
 have q13:=of_decide_eq_false b13
 refine Bx ?_
 refine hnor _ _ _ ?_
 refine ⟨l6,?_⟩
 unfold L1p; rw [show nD x.step.damp = (z - x.step.damp.low).toNat by omega]; exact IB6
set_option maxRecDepth 100000 in
theorem L8q {mn:Bool} {X:Frame→List Frame→Ro→Own→Cy→Prop} {ρ:Ro} {σ:Own} {x:DWindow} {vx:Value} (rx:Val ρ vx x) (hx:0 ≤ x.step.damp.low∧x.step.damp.low ≤ x.step.damp.high∧x.step.damp.high ≤ 3):CallsH (CX mn X) 115 #[vx] ρ σ (fun w ρ' σ'=>Ro.le ρ ρ'∧σ' = σ∧IterF w ρ' ((L1p x.step.damp).map (fun x:Int=>Value.int .i64 x))):=by
 refine Bh (n:=4) (args:=[vx]) [2] Tryz.func115 rfl rfl rfl rfl fun Q hret hnor=>?_
 refine w_q rfl rfl fun K1 k1=>?_
 refine Arv (Eb (v:=vx) rfl fun k2=>?_)
 refine Bb (a:=x) rx fun ρ2 l2 r2=>?_
 refine l_v (Cp (v:=.nilFunc) rfl) ?_
 refine Arx rfl rfl k1 fun K3 k3=>?_
 refine l_v (Il (fn:=.func 153) (caps:=[.tmp 1]) (vs:=[(.pointer (some ⟨k2,0,none⟩))]) ⟨rfl,trivial⟩) ?_
 refine l_v (Cp (v:=(.func (.func 153) #[] #[(.pointer (some ⟨k2,0,none⟩))])) rfl) ?_
 refine l_k k3 ?_
 refine Aq ?_
 refine hret _ _ _ ?_
 refine ⟨l2,rfl,?_⟩
 exact L7v r2 hx
set_option maxRecDepth 100000 in
theorem L7m {mn:Bool} {X:Frame→List Frame→Ro→Own→Cy→Prop} {ρ:Ro} {σ:Own} {d:Drying} {vo vs:Value} {s:DryState} {heat damp:Int} (ro:At ρ vo (L1b d)) (rs:Val ρ vs s) (ok:DryOk d) (hs:L2t d s) (hh:0 ≤ heat∧heat ≤ (d.heats.length:Int) - 1) (hda:0 ≤ damp∧damp ≤ 3):CallsH (CX mn X) 63 #[vo,vs,(iV (heat)),(iV (damp))] ρ σ (fun w ρ' σ'=>Ro.le ρ ρ'∧σ' = σ∧Val ρ' w (L0f d s heat damp:DryState)):=by
 have hst:=ok.start
 have hso:=ok.soak
 obtain ⟨hs1,hs2,hs3⟩:=id hs
 have hn4:=ok.n4
 refine Lt (n:=58) (args:=[vo,vs,(iV (heat)),(iV (damp))]) [.cell 8 56] Tryz.func63 rfl rfl rfl rfl fun Q hret hnor=>?_
 refine w_q rfl rfl fun K1 k1=>?_
 obtain ⟨e3_,⟨i3_1a,i3_1b⟩,⟨i3_2a,i3_2b⟩,⟨i3_3a,i3_3b⟩⟩:=DryState.open_ rs
 have e3_c:vs.cells = [(iV (s.water)),(iV (s.colour)),(iV (s.heat))].toArray:=by rw [e3_]; rfl
 refine Arv (Eb (v:=(.agg #[(iV (s.water)),(iV (s.colour)),(iV (s.heat))])) (rfl.trans e3_) fun k2=>?_)
 refine Arv (Ct L2x fun k4=>?_)
 refine Arx rfl rfl k1 fun K5 k5=>?_
 refine l_v (Ah (v:=vo) rfl) ?_
 refine l_v (Hj rfl ro) ?_
 refine Arw (Ay Stove.f_d Tryz.underlying170 rfl rfl L0t (by decide) rfl ro) fun v6 r6=>?_
 refine Arw (Ay Drying.f_heats Tryz.underlying59 rfl rfl L0k (by decide) rfl r6) fun v7 r7=>?_
 refine Arw (Ax L0k rfl r7) fun v8 r8=>?_
 refine l_v (Ah (v:=(iV (heat))) rfl) ?_
 obtain ⟨a10,ha10⟩:=Ed (xs:=d.heats) (i:=(heat).toNat) (by omega)
 obtain ⟨⟨wa10_1,wa10_2⟩,wa10_3,wa10_4⟩:=ok.heat _ _ ha10
 have hhg:=L7u ha10
 refine Arw (Ch ((heat).toNat) Tryz.underlying54 L2c rfl r8 (q:=heat) rfl (by omega) ha10) fun v9 r9=>?_
 refine Arw (Ax L2c rfl r9) fun v11 r11=>?_
 refine Arv (Ct L8l fun k12=>?_)
 refine Cx rfl (Dv (v:=v11) (a:=a10) (c:=L8j) L2c rfl rfl r11 rfl ?_)
 refine Bb (a:=a10) r11 fun ρ13 l13 r13=>?_
 replace ro:=At.mono l13 ro
 refine Asa k5 fun K14 k14=>?_
 refine L1o (((k4,oC #[(iV (0)),(iV (0)),(iV (0))] 56) :: ((k2,oC #[(iV (s.water)),(iV (s.colour)),(iV (s.heat))] 56) :: []))) [0,1,2,3,4,5,6,7,8,9,10,11,12,13,14,15,16,17,18] (by kernel_rfl) rfl rfl ?_
 refine L0q (i:=0) [o1,o0,o0,o0,o0,o0,o0,o0,o0,o0,o0,o0,o0,o0,o0,o0,o0,o0,o0,o0] rfl (by kernel_rfl) rfl ⟨Ash,(by repeat first | exact L0e | refine L0b ?_ | refine L0c ?_ | refine L0a ?_ | refine L0d ?_)⟩ rfl (Yld.o (Cb Tryz.underlying56 rfl rfl ⟨_,Ab Tryz.typeInfo3,rfl⟩ (by decide) rfl rfl)) ?_
 refine L0q (i:=1) [o1,o1,o0,o0,o0,o0,o0,o0,o0,o0,o0,o0,o0,o0,o0,o0,o0,o0,o0,o0] rfl (by kernel_rfl) rfl ⟨Ash,(by repeat first | exact L0e | refine L0b ?_ | refine L0c ?_ | refine L0a ?_ | refine L0d ?_)⟩ rfl (L1c (v:=(iV (s.water))) ⟨_,Tryz.underlying3,rfl⟩ rfl (List.mem_cons_of_mem _ (List.mem_cons_self ..)) rfl) ?_
 refine L0q (i:=2) [o1,o1,o1,o0,o0,o0,o0,o0,o0,o0,o0,o0,o0,o0,o0,o0,o0,o0,o0,o0] rfl (by kernel_rfl) rfl ⟨Ash,(by repeat first | exact L0e | refine L0b ?_ | refine L0c ?_ | refine L0a ?_ | refine L0d ?_)⟩ rfl (Yld.o (Cb Tryz.underlying56 rfl rfl ⟨_,Ab Tryz.typeInfo3,rfl⟩ (by decide) rfl rfl)) ?_
 refine L0q (i:=3) [o1,o1,o1,o1,o0,o0,o0,o0,o0,o0,o0,o0,o0,o0,o0,o0,o0,o0,o0,o0] rfl (by kernel_rfl) rfl ⟨Ash,(by repeat first | exact L0e | refine L0b ?_ | refine L0c ?_ | refine L0a ?_ | refine L0d ?_)⟩ rfl (L1c (v:=(iV (s.water))) ⟨_,Tryz.underlying3,rfl⟩ rfl (List.mem_cons_of_mem _ (List.mem_cons_self ..)) rfl) ?_
 refine L2j (i:=4) [o1,o1,o1,o1,o1,o0,o0,o0,o0,o0,o0,o0,o0,o0,o0,o0,o0,o0,o0,o0] rfl (by kernel_rfl) rfl ⟨Ash,(by repeat first | exact L0e | refine L0b ?_ | refine L0c ?_ | refine L0a ?_ | refine L0d ?_)⟩ rfl (L1d (Ay DryHeat.f_dries Tryz.underlying152 rfl rfl ty3 (by decide) rfl r13)) fun v15 r15=>?_
 have ⟨g16a,g16b⟩:=At.rng r15
 refine L0q (i:=5) [o1,o1,o1,o1,o1,o1,o0,o0,o0,o0,o0,o0,o0,o0,o0,o0,o0,o0,o0,o0] rfl (by kernel_rfl) rfl ⟨Ash,(by repeat first | exact L0e | refine L0b ?_ | refine L0c ?_ | refine L0a ?_ | refine L0d ?_)⟩ rfl (Yld.o (Bc ty3 rfl r15)) ?_
 refine L0q (i:=6) [o1,o1,o1,o1,o1,o1,o1,o0,o0,o0,o0,o0,o0,o0,o0,o0,o0,o0,o0,o0] rfl (by kernel_rfl) rfl ⟨Ash,(by repeat first | exact L0e | refine L0b ?_ | refine L0c ?_ | refine L0a ?_ | refine L0d ?_)⟩ rfl (Yld.o (Ah (v:=(iV (damp))) rfl)) ?_
 refine L0j (i:=7) [o1,o1,o1,o1,o1,o1,o1,o1,o0,o0,o0,o0,o0,o0,o0,o0,o0,o0,o0,o0] rfl (by kernel_rfl) rfl ⟨Ash,(by repeat first | exact L0e | refine L0b ?_ | refine L0c ?_ | refine L0a ?_ | refine L0d ?_)⟩ rfl (Yld.o (Ah (v:=vo) rfl)) ⟨Ash,(by repeat first | exact L0e | refine L0b ?_ | refine L0c ?_ | refine L0a ?_ | refine L0d ?_)⟩ ?_
 refine L0j (i:=8) [o1,o1,o1,o1,o1,o1,o1,o1,o1,o0,o0,o0,o0,o0,o0,o0,o0,o0,o0,o0] rfl (by kernel_rfl) rfl ⟨Ash,(by repeat first | exact L0e | refine L0b ?_ | refine L0c ?_ | refine L0a ?_ | refine L0d ?_)⟩ rfl (Yld.o (Hj rfl ro)) ⟨Ash,(by repeat first | exact L0e | refine L0b ?_ | refine L0c ?_ | refine L0a ?_ | refine L0d ?_)⟩ ?_
 refine L1u (i:=9) [o1,o1,o1,o1,o1,o1,o1,o1,o1,o1,o0,o0,o0,o0,o0,o0,o0,o0,o0,o0] rfl (by kernel_rfl) rfl ⟨Ash,(by repeat first | exact L0e | refine L0b ?_ | refine L0c ?_ | refine L0a ?_ | refine L0d ?_)⟩ rfl (L1d (Ay Stove.f_d Tryz.underlying170 rfl rfl L0t (by decide) rfl ro)) ⟨Ash,(by repeat first | exact L0e | refine L0b ?_ | refine L0c ?_ | refine L0a ?_ | refine L0d ?_)⟩ fun v17 r17=>?_
 refine L1u (i:=10) [o1,o1,o1,o1,o1,o1,o1,o1,o1,o1,o1,o0,o0,o0,o0,o0,o0,o0,o0,o0] rfl (by kernel_rfl) rfl ⟨Ash,(by repeat first | exact L0e | refine L0b ?_ | refine L0c ?_ | refine L0a ?_ | refine L0d ?_)⟩ rfl (L1d (Ay Drying.f_soak Tryz.underlying59 rfl rfl ty3 (by decide) rfl r17)) ⟨Ash,(by repeat first | exact L0e | refine L0b ?_ | refine L0c ?_ | refine L0a ?_ | refine L0d ?_)⟩ fun v18 r18=>?_
 have ⟨g19a,g19b⟩:=At.rng r18
 refine L0j (i:=11) [o1,o1,o1,o1,o1,o1,o1,o1,o1,o1,o1,o1,o0,o0,o0,o0,o0,o0,o0,o0] rfl (by kernel_rfl) rfl ⟨Ash,(by repeat first | exact L0e | refine L0b ?_ | refine L0c ?_ | refine L0a ?_ | refine L0d ?_)⟩ rfl (Yld.o (Bc ty3 rfl r18)) ⟨Ash,(by repeat first | exact L0e | refine L0b ?_ | refine L0c ?_ | refine L0a ?_ | refine L0d ?_)⟩ ?_
 have hmul20:=L7z (a:=damp) (b:=d.soak) (A:=5000) (B:=1000) (by omega) (by omega)
 refine L0j (i:=12) [o1,o1,o1,o1,o1,o1,o1,o1,o1,o1,o1,o1,o1,o0,o0,o0,o0,o0,o0,o0] rfl (by kernel_rfl) rfl ⟨Ash,(by repeat first | exact L0e | refine L0b ?_ | refine L0c ?_ | refine L0a ?_ | refine L0d ?_)⟩ rfl (Yld.o (Wq rfl rfl (z:=(damp * d.soak)) (Bo rfl (by omega) (by omega)))) ⟨Ash,(by repeat first | exact L0e | refine L0b ?_ | refine L0c ?_ | refine L0a ?_ | refine L0d ?_)⟩ ?_
 refine L0j (i:=13) [o1,o1,o1,o1,o1,o1,o1,o1,o1,o1,o1,o1,o1,o1,o0,o0,o0,o0,o0,o0] rfl (by kernel_rfl) rfl ⟨Ash,(by repeat first | exact L0e | refine L0b ?_ | refine L0c ?_ | refine L0a ?_ | refine L0d ?_)⟩ rfl (Yld.o (Ou rfl rfl (z:=(a10.dries - (damp * d.soak))) (Bo (by rfl) (by omega) (by omega)))) ⟨Ash,(by repeat first | exact L0e | refine L0b ?_ | refine L0c ?_ | refine L0a ?_ | refine L0d ?_)⟩ ?_
 refine L0j (i:=14) [o1,o1,o1,o1,o1,o1,o1,o1,o1,o1,o1,o1,o1,o1,o1,o0,o0,o0,o0,o0] rfl (by kernel_rfl) rfl ⟨Ash,(by repeat first | exact L0e | refine L0b ?_ | refine L0c ?_ | refine L0a ?_ | refine L0d ?_)⟩ rfl (Yld.o (Aqf (p:=0) (q:=(a10.dries - (damp * d.soak))) rfl rfl)) ⟨Ash,(by repeat first | exact L0e | refine L0b ?_ | refine L0c ?_ | refine L0a ?_ | refine L0d ?_)⟩ ?_
 have hmul21:=L7z (a:=s.water) (b:=(max 0 ((a10.dries - (damp * d.soak))))) (A:=5000) (B:=1000) (by omega) (by omega)
 refine L0j (i:=15) [o1,o1,o1,o1,o1,o1,o1,o1,o1,o1,o1,o1,o1,o1,o1,o1,o0,o0,o0,o0] rfl (by kernel_rfl) rfl ⟨Ash,(by repeat first | exact L0e | refine L0b ?_ | refine L0c ?_ | refine L0a ?_ | refine L0d ?_)⟩ rfl (Yld.o (Wq rfl rfl (z:=(s.water * (max 0 ((a10.dries - (damp * d.soak)))))) (Bo rfl (by omega) (by omega)))) ⟨Ash,(by repeat first | exact L0e | refine L0b ?_ | refine L0c ?_ | refine L0a ?_ | refine L0d ?_)⟩ ?_
 have hquo22:=L8g (n:=(s.water * (max 0 ((a10.dries - (damp * d.soak)))))) (by omega)
 refine L0j (i:=16) [o1,o1,o1,o1,o1,o1,o1,o1,o1,o1,o1,o1,o1,o1,o1,o1,o1,o0,o0,o0] rfl (by kernel_rfl) rfl ⟨Ash,(by repeat first | exact L0e | refine L0b ?_ | refine L0c ?_ | refine L0a ?_ | refine L0d ?_)⟩ rfl (Yld.o (L9h (p:=(s.water * (max 0 ((a10.dries - (damp * d.soak)))))) (q:=1000) rfl rfl (by omega) (z:=(((s.water * (max 0 ((a10.dries - (damp * d.soak)))))).tdiv 1000)) (Bo rfl (by omega) (by omega)))) ⟨Ash,(by repeat first | exact L0e | refine L0b ?_ | refine L0c ?_ | refine L0a ?_ | refine L0d ?_)⟩ ?_
 refine L0j (i:=17) [o1,o1,o1,o1,o1,o1,o1,o1,o1,o1,o1,o1,o1,o1,o1,o1,o1,o1,o0,o0] rfl (by kernel_rfl) rfl ⟨Ash,(by repeat first | exact L0e | refine L0b ?_ | refine L0c ?_ | refine L0a ?_ | refine L0d ?_)⟩ rfl (Yld.o (Ou rfl rfl (z:=(s.water - (((s.water * (max 0 ((a10.dries - (damp * d.soak)))))).tdiv 1000))) (Bo (by rfl) (by omega) (by omega)))) ⟨Ash,(by repeat first | exact L0e | refine L0b ?_ | refine L0c ?_ | refine L0a ?_ | refine L0d ?_)⟩ ?_
 refine L0j (i:=18) [o1,o1,o1,o1,o1,o1,o1,o1,o1,o1,o1,o1,o1,o1,o1,o1,o1,o1,o1,o0] rfl (by kernel_rfl) rfl ⟨Ash,(by repeat first | exact L0e | refine L0b ?_ | refine L0c ?_ | refine L0a ?_ | refine L0d ?_)⟩ rfl (Yld.o (Cb Tryz.underlying56 rfl rfl ⟨_,Ab Tryz.typeInfo3,rfl⟩ (by decide) rfl rfl)) ⟨Ash,(by repeat first | exact L0e | refine L0b ?_ | refine L0c ?_ | refine L0a ?_ | refine L0d ?_)⟩ ?_
 refine L1t (i:=19) [o1,o1,o1,o1,o1,o1,o1,o1,o1,o1,o1,o1,o1,o1,o1,o1,o1,o1,o1,o1] rfl (by kernel_rfl) (by kernel_rfl) rfl rfl (Cz (j:=1) (v:=(iV ((s.water - (((s.water * (max 0 ((a10.dries - (damp * d.soak)))))).tdiv 1000))))) ⟨_,Ab Tryz.typeInfo3,rfl⟩ rfl rfl rfl rfl (Nat.le_of_ble_eq_true rfl) ?_)
 refine L2r rfl ?_
 apply k14
 refine Ai fun K23 k23=>?_
 refine Ai fun K24 k24=>?_
 refine L1o (((k4,oC #[(iV (0)),(iV (0)),(iV (0))] 56) :: ((k2,oC #[(iV ((s.water - (((s.water * (max 0 ((a10.dries - (damp * d.soak)))))).tdiv 1000)))),(iV (s.colour)),(iV (s.heat))] 56) :: []))) [0,1,2,3,4,5,6,7] (by kernel_rfl) rfl rfl ?_
 refine L0q (i:=0) [o1,o0,o0,o0,o0,o0,o0,o0] rfl (by kernel_rfl) rfl ⟨Ash,(by repeat first | exact L0e | refine L0b ?_ | refine L0c ?_ | refine L0a ?_ | refine L0d ?_)⟩ rfl (Yld.o (Cb Tryz.underlying56 rfl rfl ⟨_,Ab Tryz.typeInfo3,rfl⟩ (by decide) rfl rfl)) ?_
 refine L0q (i:=1) [o1,o1,o0,o0,o0,o0,o0,o0] rfl (by kernel_rfl) rfl ⟨Ash,(by repeat first | exact L0e | refine L0b ?_ | refine L0c ?_ | refine L0a ?_ | refine L0d ?_)⟩ rfl (L1c (v:=(iV ((s.water - (((s.water * (max 0 ((a10.dries - (damp * d.soak)))))).tdiv 1000))))) ⟨_,Tryz.underlying3,rfl⟩ rfl (List.mem_cons_of_mem _ (List.mem_cons_self ..)) rfl) ?_
 refine L0j (i:=2) [o1,o1,o1,o0,o0,o0,o0,o0] rfl (by kernel_rfl) rfl ⟨Ash,(by repeat first | exact L0e | refine L0b ?_ | refine L0c ?_ | refine L0a ?_ | refine L0d ?_)⟩ rfl (Yld.o (Ah (v:=vo) rfl)) ⟨Ash,(by repeat first | exact L0e | refine L0b ?_ | refine L0c ?_ | refine L0a ?_ | refine L0d ?_)⟩ ?_
 refine L0j (i:=3) [o1,o1,o1,o1,o0,o0,o0,o0] rfl (by kernel_rfl) rfl ⟨Ash,(by repeat first | exact L0e | refine L0b ?_ | refine L0c ?_ | refine L0a ?_ | refine L0d ?_)⟩ rfl (Yld.o (Hj rfl ro)) ⟨Ash,(by repeat first | exact L0e | refine L0b ?_ | refine L0c ?_ | refine L0a ?_ | refine L0d ?_)⟩ ?_
 refine L1u (i:=4) [o1,o1,o1,o1,o1,o0,o0,o0] rfl (by kernel_rfl) rfl ⟨Ash,(by repeat first | exact L0e | refine L0b ?_ | refine L0c ?_ | refine L0a ?_ | refine L0d ?_)⟩ rfl (L1d (Ay Stove.f_d Tryz.underlying170 rfl rfl L0t (by decide) rfl ro)) ⟨Ash,(by repeat first | exact L0e | refine L0b ?_ | refine L0c ?_ | refine L0a ?_ | refine L0d ?_)⟩ fun v25 r25=>?_
 refine L1u (i:=5) [o1,o1,o1,o1,o1,o1,o0,o0] rfl (by kernel_rfl) rfl ⟨Ash,(by repeat first | exact L0e | refine L0b ?_ | refine L0c ?_ | refine L0a ?_ | refine L0d ?_)⟩ rfl (L1d (Ay Drying.f_brittle Tryz.underlying59 rfl rfl ty3 (by decide) rfl r25)) ⟨Ash,(by repeat first | exact L0e | refine L0b ?_ | refine L0c ?_ | refine L0a ?_ | refine L0d ?_)⟩ fun v26 r26=>?_
 have ⟨g27a,g27b⟩:=At.rng r26
 refine L0j (i:=6) [o1,o1,o1,o1,o1,o1,o1,o0] rfl (by kernel_rfl) rfl ⟨Ash,(by repeat first | exact L0e | refine L0b ?_ | refine L0c ?_ | refine L0a ?_ | refine L0d ?_)⟩ rfl (Yld.o (Bc ty3 rfl r26)) ⟨Ash,(by repeat first | exact L0e | refine L0b ?_ | refine L0c ?_ | refine L0a ?_ | refine L0d ?_)⟩ ?_
 refine L0j (i:=7) [o1,o1,o1,o1,o1,o1,o1,o1] rfl (by kernel_rfl) rfl ⟨Ash,(by repeat first | exact L0e | refine L0b ?_ | refine L0c ?_ | refine L0a ?_ | refine L0d ?_)⟩ rfl (Yld.o (Da rfl rfl)) ⟨Ash,(by repeat first | exact L0e | refine L0b ?_ | refine L0c ?_ | refine L0a ?_ | refine L0d ?_)⟩ ?_
 refine L2r rfl ?_
 apply k24
 refine As (t:=decide ((s.water - (((s.water * (max 0 ((a10.dries - (damp * d.soak)))))).tdiv 1000)) < d.brittle)) rfl (fun b28=>?_) (fun b28=>?_)
 ·have q28:=of_decide_eq_true b28
  refine Ag rfl rfl ?_
  refine l_v (Cb Tryz.underlying56 rfl rfl ⟨_,Ab Tryz.typeInfo3,rfl⟩ (by decide) rfl rfl) ?_
  refine Arv (Dt (i:=1) (v:=(iV (s.colour))) ⟨_,Tryz.underlying3,rfl⟩ rfl rfl rfl ?_)
  refine l_v (Cb Tryz.underlying56 rfl rfl ⟨_,Ab Tryz.typeInfo3,rfl⟩ (by decide) rfl rfl) ?_
  refine Arv (Dt (i:=1) (v:=(iV (s.colour))) ⟨_,Tryz.underlying3,rfl⟩ rfl rfl rfl ?_)
  refine Arw (Ay DryHeat.f_burns Tryz.underlying152 rfl rfl ty3 (by decide) rfl r13) fun v29 r29=>?_
  have ⟨g30a,g30b⟩:=At.rng r29
  refine l_v (Bc ty3 rfl r29) ?_
  have hmul31:=L7z (a:=s.colour) (b:=a10.burns) (A:=5000) (B:=1000) (by omega) (by omega)
  refine l_v (Wq rfl rfl (z:=(s.colour * a10.burns)) (Bo rfl (by omega) (by omega))) ?_
  have hquo32:=L8g (n:=(s.colour * a10.burns)) (by omega)
  refine l_v (L9h (p:=(s.colour * a10.burns)) (q:=1000) rfl rfl (by omega) (z:=(((s.colour * a10.burns)).tdiv 1000)) (Bo rfl (by omega) (by omega))) ?_
  refine l_v (Ou rfl rfl (z:=(s.colour - (((s.colour * a10.burns)).tdiv 1000))) (Bo (by rfl) (by omega) (by omega))) ?_
  refine l_v (Cb Tryz.underlying56 rfl rfl ⟨_,Ab Tryz.typeInfo3,rfl⟩ (by decide) rfl rfl) ?_
  refine Cx rfl (Cz (j:=1) (v:=(iV ((s.colour - (((s.colour * a10.burns)).tdiv 1000))))) ⟨_,Ab Tryz.typeInfo3,rfl⟩ rfl rfl rfl rfl (Nat.le_of_ble_eq_true rfl) ?_)
  refine Arx rfl rfl k23 fun K33 k33=>?_
  refine l_v (Ah (v:=(iV (heat))) rfl) ?_
  refine l_v (Cb Tryz.underlying56 rfl rfl ⟨_,Ab Tryz.typeInfo3,rfl⟩ (by decide) rfl rfl) ?_
  refine Cx rfl (Cz (j:=1) (v:=(iV (heat))) ⟨_,Ab Tryz.typeInfo3,rfl⟩ rfl rfl rfl rfl (Nat.le_of_ble_eq_true rfl) ?_)
  refine Arx rfl rfl k33 fun K34 k34=>?_
  refine Arv (Xo (i:=1) (cs:=[(iV ((s.water - (((s.water * (max 0 ((a10.dries - (damp * d.soak)))))).tdiv 1000)))),(iV ((s.colour - (((s.colour * a10.burns)).tdiv 1000)))),(iV (heat))]) (rs:=[]) ⟨_,Tryz.underlying56,rfl⟩ ⟨_,Ab Tryz.typeInfo56,rfl⟩ rfl rfl rfl rfl ?_)
  have r35:Val ρ13 (.agg #[(iV ((s.water - (((s.water * (max 0 ((a10.dries - (damp * d.soak)))))).tdiv 1000)))),(iV ((s.colour - (((s.colour * a10.burns)).tdiv 1000)))),(iV (heat))]) (⟨(s.water - (((s.water * (max 0 ((a10.dries - (damp * d.soak)))))).tdiv 1000)),(s.colour - (((s.colour * a10.burns)).tdiv 1000)),heat⟩:DryState):=DryState.shut (x:=(⟨(s.water - (((s.water * (max 0 ((a10.dries - (damp * d.soak)))))).tdiv 1000)),(s.colour - (((s.colour * a10.burns)).tdiv 1000)),heat⟩:DryState)) (show I64 ((s.water - (((s.water * (max 0 ((a10.dries - (damp * d.soak)))))).tdiv 1000))) from by constructor <;> omega) (show I64 ((s.colour - (((s.colour * a10.burns)).tdiv 1000))) from by constructor <;> omega) (show I64 (heat) from by constructor <;> omega)
  refine Cx rfl (Li (i:=0) (vs:=[(iV ((s.water - (((s.water * (max 0 ((a10.dries - (damp * d.soak)))))).tdiv 1000)))),(iV ((s.colour - (((s.colour * a10.burns)).tdiv 1000)))),(iV (heat))]) (c':=[(iV ((s.water - (((s.water * (max 0 ((a10.dries - (damp * d.soak)))))).tdiv 1000)))),(iV ((s.colour - (((s.colour * a10.burns)).tdiv 1000)))),(iV (heat))]) ⟨_,Ab Tryz.typeInfo56,rfl⟩ rfl rfl rfl rfl (Zh ⟨rfl,rfl,rfl,trivial⟩) rfl (Nat.le_of_ble_eq_true rfl) rfl ?_)
  refine l_k k34 ?_
  refine Aj (Asg Arz) ?_
  refine Aj Ghost.drop ?_
  refine Aq ?_
  have r36:Val ρ13 (.agg #[(iV ((s.water - (((s.water * (max 0 ((a10.dries - (damp * d.soak)))))).tdiv 1000)))),(iV ((s.colour - (((s.colour * a10.burns)).tdiv 1000)))),(iV (heat))]) (⟨(s.water - (((s.water * (max 0 ((a10.dries - (damp * d.soak)))))).tdiv 1000)),(s.colour - (((s.colour * a10.burns)).tdiv 1000)),heat⟩:DryState):=DryState.shut (x:=(⟨(s.water - (((s.water * (max 0 ((a10.dries - (damp * d.soak)))))).tdiv 1000)),(s.colour - (((s.colour * a10.burns)).tdiv 1000)),heat⟩:DryState)) (show I64 ((s.water - (((s.water * (max 0 ((a10.dries - (damp * d.soak)))))).tdiv 1000))) from by constructor <;> omega) (show I64 ((s.colour - (((s.colour * a10.burns)).tdiv 1000))) from by constructor <;> omega) (show I64 (heat) from by constructor <;> omega)
  refine hret _ _ _ _ _ [(.agg #[(iV ((s.water - (((s.water * (max 0 ((a10.dries - (damp * d.soak)))))).tdiv 1000)))),(iV ((s.colour - (((s.colour * a10.burns)).tdiv 1000)))),(iV (heat))])] ⟨(Qh ⟨_,Tryz.underlying56,rfl⟩ ⟨_,Ab Tryz.typeInfo56,rfl⟩ rfl (i:=0) rfl rfl),trivial⟩ Ghost.drop ?_
  refine ⟨l13,rfl,Abz (v:=(.agg #[(iV ((s.water - (((s.water * (max 0 ((a10.dries - (damp * d.soak)))))).tdiv 1000)))),(iV ((s.colour - (((s.colour * a10.burns)).tdiv 1000)))),(iV (heat))])) rfl (Val.cast ?_ r36)⟩
  ·unfold L0f L3x; rw [hhg,if_pos (by first | omega | exact q28)]
 have q28:=of_decide_eq_false b28
 refine Al ?_
 apply k23
 refine w_q rfl rfl fun K37 k37=>?_
 refine l_v (Ah (v:=(iV (heat))) rfl) ?_
 refine l_v (Cb Tryz.underlying56 rfl rfl ⟨_,Ab Tryz.typeInfo3,rfl⟩ (by decide) rfl rfl) ?_
 refine Cx rfl (Cz (j:=1) (v:=(iV (heat))) ⟨_,Ab Tryz.typeInfo3,rfl⟩ rfl rfl rfl rfl (Nat.le_of_ble_eq_true rfl) ?_)
 refine Arx rfl rfl k37 fun K38 k38=>?_
 refine Arv (Xo (i:=1) (cs:=[(iV ((s.water - (((s.water * (max 0 ((a10.dries - (damp * d.soak)))))).tdiv 1000)))),(iV (s.colour)),(iV (heat))]) (rs:=[]) ⟨_,Tryz.underlying56,rfl⟩ ⟨_,Ab Tryz.typeInfo56,rfl⟩ rfl rfl rfl rfl ?_)
 have r39:Val ρ13 (.agg #[(iV ((s.water - (((s.water * (max 0 ((a10.dries - (damp * d.soak)))))).tdiv 1000)))),(iV (s.colour)),(iV (heat))]) (⟨(s.water - (((s.water * (max 0 ((a10.dries - (damp * d.soak)))))).tdiv 1000)),s.colour,heat⟩:DryState):=DryState.shut (x:=(⟨(s.water - (((s.water * (max 0 ((a10.dries - (damp * d.soak)))))).tdiv 1000)),s.colour,heat⟩:DryState)) (show I64 ((s.water - (((s.water * (max 0 ((a10.dries - (damp * d.soak)))))).tdiv 1000))) from by constructor <;> omega) (show I64 (s.colour) from by constructor <;> omega) (show I64 (heat) from by constructor <;> omega)
 refine Cx rfl (Li (i:=0) (vs:=[(iV ((s.water - (((s.water * (max 0 ((a10.dries - (damp * d.soak)))))).tdiv 1000)))),(iV (s.colour)),(iV (heat))]) (c':=[(iV ((s.water - (((s.water * (max 0 ((a10.dries - (damp * d.soak)))))).tdiv 1000)))),(iV (s.colour)),(iV (heat))]) ⟨_,Ab Tryz.typeInfo56,rfl⟩ rfl rfl rfl rfl (Zh ⟨rfl,rfl,rfl,trivial⟩) rfl (Nat.le_of_ble_eq_true rfl) rfl ?_)
 refine l_k k38 ?_
 refine Aj (Asg Arz) ?_
 refine Aj Ghost.drop ?_
 refine Aq ?_
 have r40:Val ρ13 (.agg #[(iV ((s.water - (((s.water * (max 0 ((a10.dries - (damp * d.soak)))))).tdiv 1000)))),(iV (s.colour)),(iV (heat))]) (⟨(s.water - (((s.water * (max 0 ((a10.dries - (damp * d.soak)))))).tdiv 1000)),s.colour,heat⟩:DryState):=DryState.shut (x:=(⟨(s.water - (((s.water * (max 0 ((a10.dries - (damp * d.soak)))))).tdiv 1000)),s.colour,heat⟩:DryState)) (show I64 ((s.water - (((s.water * (max 0 ((a10.dries - (damp * d.soak)))))).tdiv 1000))) from by constructor <;> omega) (show I64 (s.colour) from by constructor <;> omega) (show I64 (heat) from by constructor <;> omega)
 refine hret _ _ _ _ _ [(.agg #[(iV ((s.water - (((s.water * (max 0 ((a10.dries - (damp * d.soak)))))).tdiv 1000)))),(iV (s.colour)),(iV (heat))])] ⟨(Qh ⟨_,Tryz.underlying56,rfl⟩ ⟨_,Ab Tryz.typeInfo56,rfl⟩ rfl (i:=0) rfl rfl),trivial⟩ Ghost.drop ?_
 refine ⟨l13,rfl,Abz (v:=(.agg #[(iV ((s.water - (((s.water * (max 0 ((a10.dries - (damp * d.soak)))))).tdiv 1000)))),(iV (s.colour)),(iV (heat))])) rfl (Val.cast ?_ r40)⟩
 ·unfold L0f L3x; rw [hhg,if_neg (by first | omega | exact q28)]
end Go.Proofs.YtphgjjmlnkgghaaGreatDoor

namespace Go.Proofs.YtphgjjmlnkgghaaGreatDoor
open Go
/-- A key: numbers side by side. -/
def L1h (k:List Int):Value:=.agg (k.map (Value.int .i64)).toArray
/-- A struct of so many numbers. -/
structure KeyN (P:Program) (kt:TypeId) (n:Nat):Prop where
  und:∃ fs:List Field,fs.length = n∧P.underlying kt = some (.struct fs.toArray)∧∀ (i:Nat) (f:Field),fs[i]? = some f→f.name ≠ "_"∧f.offset = i∧P.underlying f.type = some (.int .i64)
  held:P.stoodInHeld kt = false
section
variable {C:Ctx} {e:Env} {ds:List Deferred} {ρ:Ro} {σ:Own} {K:Value→List Deferred→Ro→Own→Prop} {rd:Option Nat} {dd:Option Tmp}
variable {ty:TypeId} {pos:String} {af:Array Edge} {g:Option (Nat × Bool)} {x y u:Operand} {v p:Value} {t t':TypeId} {P:Program}
theorem L5a {a b:List Int}:∀ (fs:List Field) (i:Nat),(∀ (j:Nat) (f:Field),fs[j]? = some f→f.name ≠ "_"∧f.offset = i + j∧P.underlying f.type = some (.int .i64))→a.length = i + fs.length→b.length = i + fs.length →
    EqF P (a.map (Value.int .i64)).toArray (b.map (Value.int .i64)).toArray fs (a.drop i) (b.drop i)
  | [],i,_,ha,hb=>by
    rw [List.drop_of_length_le (by simp at ha; omega),List.drop_of_length_le (by simp at hb; omega)]; exact trivial
  | f :: fs,i,hf,ha,hb=>by
    obtain ⟨h1,h2,h3⟩:=hf 0 f rfl
    simp only [List.length_cons] at ha hb
    have ea:a.drop i = a[i]'(by omega) :: a.drop (i + 1):=List.drop_eq_getElem_cons (by omega)
    have eb:b.drop i = b[i]'(by omega) :: b.drop (i + 1):=List.drop_eq_getElem_cons (by omega)
    rw [ea,eb]
    refine ⟨⟨h1,_,h3,?_,?_⟩,L5a fs (i + 1) (fun j g hg=>by have:=hf (j + 1) g (by simpa using hg); exact ⟨this.1,by omega,this.2.2⟩) (by omega) (by omega)⟩
    · rw [h2,Nat.add_zero,List.getElem?_toArray,List.getElem?_map,List.getElem?_eq_getElem (by omega)]; rfl
    · rw [h2,Nat.add_zero,List.getElem?_toArray,List.getElem?_map,List.getElem?_eq_getElem (by omega)]; rfl
/-- Entries as they are told: key,value,stamp. -/
abbrev Ent:=List Int × Value × Nat
def mkE (z:Ent):MapEntry:=⟨L1h z.1,z.2.1,z.2.2⟩
def L1q (a:List Int):List Ent→Nat→Option (Nat × Value)
  | [],_=>none
  | z :: l,i=>if a = z.1 then some (i,z.2.1) else L1q a l (i + 1)
def L4l (l:List Ent) (a:List Int):Option Value:=(L1q a l 0).map (·.2)
theorem L5o {kt:TypeId} {n:Nat} (hk:KeyN P kt n) {a:List Int} (ha:a.length = n) {Q:Option (Nat × Value)→Own→Prop}:∀ (l:List Ent) (i:Nat),(∀ z ∈ l,z.1.length = n)→Q (L1q a l i) σ→wpS P ρ (Instr.findAsking kt (L1h a) (l.map mkE) i) σ Q
  | [],_,_,h=>h
  | z :: l,i,hl,h=>by
    obtain ⟨fs,h1,hT,h3⟩:=hk.und
    show wpS P ρ ((Op.equal kt (L1h a) (L1h z.1)).bind _) σ Q
    rw [Ad]
    have hz:=hl z (List.mem_cons_self ..)
    have hf:=L5a (P:=P) (a:=a) (b:=z.1) fs 0 (fun j f hf=>by have:=h3 j f hf; exact ⟨this.1,by omega,this.2.2⟩) (by omega) (by omega)
    rw [List.drop_zero,List.drop_zero] at hf
    refine Ms (d:=9998) hT hk.held hf ?_
    unfold L1q at h
    by_cases hab:a = z.1
    · rw [decide_eq_true hab]; rw [if_pos hab] at h; exact h
    · rw [decide_eq_false hab]; rw [if_neg hab] at h
      exact L5o hk ha l (i + 1) (fun w hw=>hl w (List.mem_cons_of_mem _ hw)) h
theorem L7c {kt:TypeId} {n:Nat} (hk:KeyN P kt n) {a:List Int} (ha:a.length = n) {l:List Ent} (hl:∀ z ∈ l,z.1.length = n) {Q:Option (Nat × Value)→Own→Prop} (h:Q (L1q a l 0) σ):wpS P ρ (Instr.findKey kt (L1h a) (l.map mkE)) σ Q:=by
  obtain ⟨fs,h1,hT,h3⟩:=hk.und
  show wpS P ρ ((underlying kt).bind _) σ Q
  rw [Ad]
  refine Az hT ?_
  have key:∀ l:List MapEntry,l ≠ []→Instr.findNow (.struct fs.toArray) (L1h a) l 0 = none:=fun l hl=>by
    cases l with
    | nil=>exact absurd rfl hl
    | cons en l=>rfl
  cases hl':l with
  | nil=>subst hl'; exact h
  | cons z l' =>
    have hnow:=key ((z :: l').map mkE) (by simp)
    simp only [hnow]
    rw [← hl']
    exact L5o hk ha l 0 hl h
theorem L4f {B:Field→PUnit→Sem (ForInStep PUnit)}:∀ (fs:List Field),(∀ f ∈ fs,∀ Q':ForInStep PUnit→Own→Prop,Q' (.yield PUnit.unit) σ→wpS P ρ (B f PUnit.unit) σ Q')→∀ {Q:PUnit→Own→Prop},Q PUnit.unit σ→wpS P ρ (forIn fs PUnit.unit B) σ Q
  | [],_,Q,h=>h
  | f :: fs,hB,Q,h=>by
    rw [List.forIn_cons]
    show wpS P ρ (Sem.bind _ _) σ _
    rw [Ad]
    exact hB f (List.mem_cons_self ..) _ (L4f fs (fun f hf=>hB f (List.mem_cons_of_mem _ hf)) h)
theorem L5y {kt:TypeId} {n:Nat} (hk:KeyN P kt n) {a:List Int} (ha:a.length = n) {em:Bool} {m:Nat} {Q:Unit→Own→Prop} (h:Q () σ):wpS P ρ (Instr.checkKey em (m + 2) kt (L1h a)) σ Q:=by
  obtain ⟨fs,h1,hT,h3⟩:=hk.und
  show wpS P ρ ((underlying kt).bind _) σ Q
  rw [Ad]
  refine Az hT ?_
  show wpS P ρ (Sem.bind (forIn fs.toArray _ _) _) σ Q
  rw [Ad,List.forIn_toArray]
  refine L4f fs (fun f hf Q' hq=>?_) h
  obtain ⟨i,hi⟩:=List.mem_iff_getElem?.1 hf
  obtain ⟨h4,h5,h6⟩:=h3 i f hi
  have hlt:=(List.getElem?_eq_some_iff.1 hi).1
  show wpS P ρ (if f.name ≠ "_" then _ else _) σ Q'
  rw [if_pos h4]
  show wpS P ρ (Sem.bind (part f.type _ f.offset) _) σ _
  rw [Ad]
  refine Qr (v:=.int .i64 (a[i]'(by omega))) ⟨_,h6,rfl⟩ (by rw [h5,List.getElem?_toArray,List.getElem?_map,List.getElem?_eq_getElem (by omega)]; rfl) ?_
  show wpS P ρ (Sem.bind (Instr.checkKey em (m + 1) f.type (.int .i64 _)) _) σ _
  rw [Ad]
  show wpS P ρ ((underlying f.type).bind _) σ _
  rw [Ad]
  exact Az h6 hq
end
end Go.Proofs.YtphgjjmlnkgghaaGreatDoor

namespace Go.Proofs.YtphgjjmlnkgghaaGreatDoor
open Go
/-- What a map holds,in the order in which it came. -/
structure MapL (n:Nat) (es:Array MapEntry) (ck:Nat) (l:List Ent):Prop where
  es:es.toList = l.map mkE
  len:∀ z ∈ l,z.1.length = n
  keys:(l.map (·.1)).Nodup
  born:(l.map (·.2.2)).Nodup
  lt:∀ z ∈ l,z.2.2 < ck
theorem L2q {n:Nat}:MapL n #[] 0 []:=⟨rfl,fun z h=>by (cases h),List.nodup_nil,List.nodup_nil,fun z h=>by (cases h)⟩
/-- The map with a key set. -/
def L1x (l:List Ent) (a:List Int) (v:Value) (ck:Nat):List Ent:=if (L4l l a).isSome then l.map (fun z=>if z.1 = a then (z.1,v,z.2.2) else z) else l ++ [(a,v,ck)]
theorem L2i {a:List Int}:∀ {l:List Ent} {i:Nat} {r:Nat × Value},L1q a l i = some r→∃ z,l[r.1 - i]? = some z∧i ≤ r.1∧z.1 = a∧z.2.1 = r.2
  | [],_,_,h=>by cases h
  | z :: l,i,r,h=>by
    unfold L1q at h
    split at h
    · rename_i hz
      cases h
      exact ⟨z,by simp,Nat.le_refl _,hz.symm,rfl⟩
    · obtain ⟨w,h1,h2,h3,h4⟩:=L2i h
      refine ⟨w,?_,by omega,h3,h4⟩
      rw [show r.1 - i = (r.1 - (i + 1)) + 1 by omega]; simpa using h1
theorem L3k {a:List Int}:∀ {l:List Ent} {i:Nat},L1q a l i = none↔∀ z ∈ l,z.1 ≠ a
  | [],_=>by simp [L1q]
  | z :: l,i=>by
    unfold L1q
    split
    · rename_i hz; constructor
      · intro h; cases h
      · intro h; exact absurd hz.symm (h z (List.mem_cons_self ..))
    · rename_i hz
      rw [L3k]
      constructor
      · intro h w hw
        rcases List.mem_cons.1 hw with rfl | hw
        · exact fun e=>hz e.symm
        · exact h w hw
      · intro h w hw; exact h w (List.mem_cons_of_mem _ hw)
theorem L6y {l:List Ent} {a:List Int}:L4l l a = none↔∀ z ∈ l,z.1 ≠ a:=by
  unfold L4l; rw [Option.map_eq_none_iff,L3k]
theorem L6z {l:List Ent} {a:List Int} {v:Value} (h:L4l l a = some v):∃ z ∈ l,z.1 = a∧z.2.1 = v:=by
  unfold L4l at h
  obtain ⟨r,h1,h2⟩:=Option.map_eq_some_iff.1 h
  obtain ⟨z,h3,_,h4,h5⟩:=L2i h1
  exact ⟨z,List.mem_of_getElem? h3,h4,by rw [h5]; exact h2⟩
theorem L5f {a:List Int}:∀ {l:List Ent} {i:Nat},(l.map (·.1)).Nodup→∀ {z:Ent},z ∈ l→z.1 = a→∃ j,l[j]? = some z∧L1q a l i = some (i + j,z.2.1)
  | [],_,_,z,h,_=>by cases h
  | w :: l,i,hk,z,hz,ha=>by
    rw [List.map_cons,List.nodup_cons] at hk
    unfold L1q
    by_cases hw:a = w.1
    · rw [if_pos hw]
      rcases List.mem_cons.1 hz with rfl | hz
      · exact ⟨0,rfl,rfl⟩
      · exact absurd (List.mem_map.2 ⟨z,hz,by rw [ha,hw]⟩) hk.1
    · rw [if_neg hw]
      rcases List.mem_cons.1 hz with rfl | hz
      · exact absurd ha.symm hw
      · obtain ⟨j,h1,h2⟩:=L5f (i:=i + 1) hk.2 hz ha
        exact ⟨j + 1,by simpa using h1,by rw [h2,show i + 1 + j = i + (j + 1) by omega]⟩
theorem L7t {n:Nat} {es:Array MapEntry} {ck:Nat} {l:List Ent} (h:MapL n es ck l) {z:Ent} (hz:z ∈ l):L4l l z.1 = some z.2.1:=by
  obtain ⟨j,_,h2⟩:=L5f (i:=0) h.keys hz rfl
  unfold L4l; rw [h2]; rfl
theorem L7y {n:Nat} {es:Array MapEntry} {ck:Nat} {l:List Ent} (h:MapL n es ck l) {a:List Int} (ha:a.length = n) {v:Value} (hf:L4l l a = none):MapL n (es.push ⟨L1h a,v,ck⟩) (ck + 1) (L1x l a v ck):=by
  have e1:L1x l a v ck = l ++ [(a,v,ck)]:=by unfold L1x; rw [hf]; rfl
  rw [e1]
  refine ⟨by rw [Array.toList_push,h.es,List.map_append]; rfl,fun z hz=>?_,?_,?_,fun z hz=>?_⟩
  · rcases List.mem_append.1 hz with hz | hz
    · exact h.len z hz
    · rw [List.mem_singleton.1 hz]; exact ha
  · rw [List.map_append,List.nodup_append]
    refine ⟨h.keys,by simp,fun x hx y hy=>?_⟩
    simp only [List.map_cons,List.map_nil,List.mem_singleton] at hy
    subst hy
    obtain ⟨z,hz,rfl⟩:=List.mem_map.1 hx
    exact L6y.1 hf z hz
  · rw [List.map_append,List.nodup_append]
    refine ⟨h.born,by simp,fun x hx y hy=>?_⟩
    simp only [List.map_cons,List.map_nil,List.mem_singleton] at hy
    subst hy
    obtain ⟨z,hz,rfl⟩:=List.mem_map.1 hx
    have:=h.lt z hz
    omega
  · rcases List.mem_append.1 hz with hz | hz
    · have:=h.lt z hz; omega
    · rw [List.mem_singleton.1 hz]; exact Nat.lt_succ_self _
theorem L7x {n:Nat} {es:Array MapEntry} {ck:Nat} {l:List Ent} (h:MapL n es ck l) {a:List Int} {v:Value} {i:Nat} {z:Ent} (hi:l[i]? = some z) (hz:z.1 = a):MapL n (es.modify i fun e=>{ e with key:=L1h a,val:=v }) ck (L1x l a v ck):=by
  have hm:=List.mem_of_getElem? hi
  have e1:L1x l a v ck = l.map (fun z=>if z.1 = a then (z.1,v,z.2.2) else z):=by unfold L1x; rw [← hz,L7t h hm]; rfl
  rw [e1]
  refine ⟨?_,fun w hw=>?_,?_,?_,fun w hw=>?_⟩
  · rw [Array.toList_modify,h.es]
    apply List.ext_getElem?
    intro j
    rw [List.getElem?_modify,List.getElem?_map,List.map_map,List.getElem?_map]
    cases hj:l[j]? with
    | none=>rfl
    | some w =>
      simp only [Option.map_some,Function.comp]
      by_cases hij:i = j
      · subst hij
        rw [hi] at hj; cases hj
        show some _ = some _
        simp only [if_true,hz,mkE]
      · simp only [if_neg hij]
        have:w.1 ≠ a:=fun hwa=>by
          have h1:(l.map (·.1))[i]? = some a:=by rw [List.getElem?_map,hi]; simp [hz]
          have h2:(l.map (·.1))[j]? = some a:=by rw [List.getElem?_map,hj]; simp [hwa]
          have hlt:=(List.getElem?_eq_some_iff.1 h1).1
          exact hij ((List.getElem?_inj hlt h.keys).1 (h1.trans h2.symm))
        show some _ = some _
        simp only [if_neg this]
  · obtain ⟨y,hy,rfl⟩:=List.mem_map.1 hw
    split <;> exact h.len y hy
  · have:(l.map (fun z=>if z.1 = a then (z.1,v,z.2.2) else z)).map (·.1) = l.map (·.1):=by rw [List.map_map]; congr 1; funext y; simp only [Function.comp]; split <;> rfl
    rw [this]; exact h.keys
  · have:(l.map (fun z=>if z.1 = a then (z.1,v,z.2.2) else z)).map (·.2.2) = l.map (·.2.2):=by rw [List.map_map]; congr 1; funext y; simp only [Function.comp]; split <;> rfl
    rw [this]; exact h.born
  · obtain ⟨y,hy,rfl⟩:=List.mem_map.1 hw
    split <;> exact h.lt y hy
theorem L8z {n:Nat} {es:Array MapEntry} {ck:Nat} {l:List Ent} (h:MapL n es ck l) {a:List Int} {v:Value} {z:Ent} (hz:z ∈ L1x l a v ck):(z.1 = a∧z.2.1 = v)∨z ∈ l:=by
  unfold L1x at hz
  split at hz
  · obtain ⟨y,hy,rfl⟩:=List.mem_map.1 hz
    split
    · rename_i hya; exact .inl ⟨hya,rfl⟩
    · exact .inr hy
  · rcases List.mem_append.1 hz with hz | hz
    · exact .inr hz
    · rw [List.mem_singleton.1 hz]; exact .inl ⟨rfl,rfl⟩
section
variable {C:Ctx} {e:Env} {ds:List Deferred} {ρ:Ro} {σ:Own} {K:Value→List Deferred→Ro→Own→Prop} {rd:Option Nat} {dd:Option Tmp}
variable {ty:TypeId} {pos:String} {af:Array Edge} {g:Option (Nat × Bool)} {x y u:Operand} {v p:Value} {t t':TypeId} {P:Program}
theorem L5p {i r ck n:Nat} {kt et:TypeId} {a:List Int} {w:Value} {es:Array MapEntry} {l:List Ent} (hT:P.underlying t = some (.map kt et)) (hk:KeyN P kt n) (hs:MapL n es ck l) (ha:a.length = n) (hi:σ[i]? = some (r,.obj (.map es ck))) {Q:Unit→Own→Prop}
    (h:∀ es' ck',MapL n es' ck' (L1x l a w ck)→Q () (σ.set i (r,.obj (.map es' ck')))):wpS P ρ (Instr.mapUpdate t (.map (some r)) (L1h a) w) σ Q:=by
  show wpS P ρ ((underlying t).bind _) σ Q
  rw [Ad]
  refine Az hT ?_
  show wpS P ρ ((getObj r).bind _) σ _
  rw [Ad]
  refine ⟨_,.inr (List.mem_of_getElem? hi),rfl,?_⟩
  show wpS P ρ ((Instr.checkKey false 10000 kt _).bind _) σ _
  rw [Ad]
  refine L5y (m:=9998) hk ha ?_
  show wpS P ρ ((Instr.findKey kt _ es.toList).bind _) σ _
  rw [Ad,hs.es]
  refine L7c hk ha hs.len ?_
  cases hf:L1q a l 0 with
  | none =>
    refine ⟨rfl,i,_,hi,rfl,h _ _ (L7y hs ha ?_)⟩
    unfold L4l; rw [hf]; rfl
  | some q =>
    obtain ⟨z,h1,_,h3,h4⟩:=L2i hf
    rw [Nat.sub_zero] at h1
    show wpS P ρ ((Instr.keyThatStays (((es[q.1]?).map (·.key)).getD _) _).bind _) σ _
    have hq:es[q.1]? = some (mkE z):=by rw [← Array.getElem?_toList,hs.es,List.getElem?_map,h1]; rfl
    rw [Ad,hq]
    refine Xt (by show L1h z.1 = L1h a; rw [h3]) ?_
    exact ⟨rfl,i,_,hi,rfl,h _ _ (L7x hs h1 h3)⟩
theorem L8i {i r ck n:Nat} {kt et:TypeId} {a:List Int} {w:Value} {es:Array MapEntry} {l:List Ent} (hT:C.P.underlying t = some (.map kt et)) (hk:KeyN C.P kt n) (hs:MapL n es ck l) (ha:a.length = n)
    (hx:Af e x = .map (some r)) (hy:Af e y = L1h a) (hu:Af e u = w) (hi:σ[i]? = some (r,.obj (.map es ck)))
    (h:∀ es' ck',MapL n es' ck' (L1x l a w ck)→K undef ds ρ (σ.set i (r,.obj (.map es' ck')))):wpS C.P ρ (execOp (Af e) ⟨dd,.mapUpdate t x y u,ty,pos,af,g⟩) σ (NextH C K rd ds ρ):=by
  show wpS C.P ρ ((Instr.mapUpdate t (Af e x) (Af e y) (Af e u)).bind _) σ _
  refine Rs ?_
  rw [hx,hy,hu]
  exact L5p hT hk hs ha hi h
theorem L9v {i r ck n:Nat} {kt et:TypeId} {a:List Int} {w:Value} {es:Array MapEntry} {l:List Ent} (hT:C.P.underlying t = some (.map kt et)) (hk:KeyN C.P kt n) (hs:MapL n es ck l) (ha:a.length = n)
    (hx:Af e x = .map (some r)) (hy:Af e y = L1h a) (hu:Af e u = w) (hi:σ[i]? = some (r,.obj (.map es ck)))
    (h:∀ es' ck',MapL n es' ck' (L1x l a w ck)→K undef ds ρ (σ.set i (r,.obj (.map es' ck')))):wpS C.P ρ (execOp (Af e) ⟨dd,.insert t x y u,ty,pos,af,g⟩) σ (NextH C K rd ds ρ):=by
  show wpS C.P ρ ((Instr.mapUpdate t (Af e x) (Af e y) (Af e u)).bind _) σ _
  refine Rs ?_
  rw [hx,hy,hu]
  exact L5p hT hk hs ha hi h
/-- An iterator over the map r that has shown these entries. -/
def L0r (r ck:Nat) (dn:List Ent):Obj:=.mapIter (some r) ck (dn.map (·.2.2)).toArray ck
theorem L5m {r ck:Nat} {kt et:TypeId} {es:Array MapEntry} (hT:C.P.underlying t = some (.map kt et)) (hx:Af e x = .map (some r)) (hi:Has ρ σ r (.map es ck)) (h:∀ k,K (.pointer (some ⟨k,0,none⟩)) ds ρ ((k,.obj (L0r r ck [])) :: σ)) :
    wpS C.P ρ (execOp (Af e) ⟨dd,.range t x,ty,pos,af,g⟩) σ (NextH C K rd ds ρ):=by
  show wpS C.P ρ ((Instr.range t (Af e x)).bind _) σ _
  refine Gd ?_
  rw [hx]
  show wpS C.P ρ ((underlying t).bind _) σ _
  rw [Ad]
  refine Az hT ?_
  show wpS C.P ρ ((getObj r).bind _) σ _
  rw [Ad]
  refine ⟨_,hi,rfl,?_⟩
  show wpS C.P ρ ((newObj (.mapIter (some r) ck #[] ck)).bind _) σ _
  rw [Ad]
  exact .inl ⟨rfl,fun k=>h k⟩
theorem L3m {n:Nat} {es:Array MapEntry} {ck:Nat} {l dn:List Ent} (hs:MapL n es ck l) (hd:∀ z ∈ dn,z ∈ l) {z:Ent} (hz:z ∈ l):((dn.map (·.2.2)).toArray.contains z.2.2 = true)↔z ∈ dn:=by
  rw [List.contains_toArray,List.contains_iff_mem,List.mem_map]
  constructor
  · rintro ⟨w,hw,e⟩
    have:w = z:=by
      have h1:=hd w hw
      obtain ⟨i,hi⟩:=List.mem_iff_getElem?.1 h1
      obtain ⟨j,hj⟩:=List.mem_iff_getElem?.1 hz
      have h2:(l.map (·.2.2))[i]? = (l.map (·.2.2))[j]?:=by rw [List.getElem?_map,List.getElem?_map,hi,hj]; simp [e]
      have hlt:i < (l.map (·.2.2)).length:=by rw [List.length_map]; exact (List.getElem?_eq_some_iff.1 hi).1
      have:=(List.getElem?_inj hlt hs.born).1 h2
      subst this
      rw [hi] at hj; exact Option.some.inj hj
    rw [← this]; exact hw
  · intro h; exact ⟨z,h,rfl⟩
/-- The next entry of a map that has not changed: one that has not been shown,or the end when all have been. -/
theorem L6r {i k r ck n:Nat} {es:Array MapEntry} {l dn:List Ent} (hs:MapL n es ck l) (hd:∀ z ∈ dn,z ∈ l) (hx:Af e x = .pointer (some ⟨k,0,none⟩)) (hi:σ[i]? = some (k,.obj (L0r r ck dn))) (hm:Has ρ σ r (.map es ck))
    (h0:(∀ z ∈ l,z ∈ dn)→K (.tuple #[.bool false]) ds ρ σ) (h1:∀ z ∈ l,z ∉ dn→K (.tuple #[.bool true,L1h z.1,z.2.1]) ds ρ (σ.set i (k,.obj (L0r r ck (dn ++ [z]))))) :
    wpS C.P ρ (execOp (Af e) ⟨dd,.next x false,ty,pos,af,g⟩) σ (NextH C K rd ds ρ):=by
  show wpS C.P ρ ((Instr.next (Af e x) false ty).bind _) σ _
  refine Gd ?_
  rw [hx]
  show wpS C.P ρ ((getObj k).bind _) σ _
  rw [Ad]
  refine ⟨_,.inr (List.mem_of_getElem? hi),rfl,?_⟩
  show wpS C.P ρ ((getObj r).bind _) σ _
  rw [Ad]
  refine ⟨_,hm,rfl,?_⟩
  have hlt:∀ en ∈ es.toList,en.born < ck:=fun en he=>by
    rw [hs.es] at he
    obtain ⟨z,hz,rfl⟩:=List.mem_map.1 he
    exact hs.lt z hz
  have hg:(!(dn.map (·.2.2)).toArray.isEmpty && !es.isEmpty && es.all (·.born ≥ ck)) = false:=by
    cases hl:es.toList with
    | nil =>
      have:es = #[]:=by apply Array.ext'; exact hl
      subst this; simp
    | cons en l' =>
      have h2:=hlt en (by rw [hl]; exact List.mem_cons_self ..)
      have:es.all (·.born ≥ ck) = false:=by
        rw [← Array.all_toList,hl,List.all_cons,decide_eq_false (by omega)]; rfl
      rw [this,Bool.and_false]
  show wpS C.P ρ (if (!(dn.map (·.2.2)).toArray.isEmpty && !es.isEmpty && es.all (·.born ≥ ck)) = true then _ else _) σ _
  rw [if_neg (by rw [hg]; exact Bool.false_ne_true)]
  -- what is left
  have hfilt:∀ (q:MapEntry→Bool),(es.filter q).toList = (l.filter (fun z=>q (mkE z))).map mkE:=fun q=>by
    rw [Array.toList_filter,hs.es,List.filter_map]; rfl
  generalize hleft:es.filter (fun e=>!(dn.map (·.2.2)).toArray.contains e.born) = left
  have hleftL:left.toList = (l.filter (fun z=>!(dn.map (·.2.2)).toArray.contains z.2.2)).map mkE:=by rw [← hleft]; exact hfilt _
  have hold:left.filter (·.born < ck) = left:=by
    apply Array.ext'
    rw [Array.toList_filter,List.filter_eq_self]
    intro en he
    rw [hleftL] at he
    obtain ⟨z,hz,rfl⟩:=List.mem_map.1 he
    exact decide_eq_true (hs.lt z (List.mem_filter.1 hz).1)
  have hnew:left.filter (·.born ≥ ck) = #[]:=by
    apply Array.ext'
    rw [Array.toList_filter]
    show _ = []
    rw [List.filter_eq_nil_iff]
    intro en he
    rw [hleftL] at he
    obtain ⟨z,hz,rfl⟩:=List.mem_map.1 he
    have h3:=hs.lt z (List.mem_filter.1 hz).1
    have h4:¬ (mkE z).born ≥ ck:=by show ¬ z.2.2 ≥ ck; omega
    simpa using h4
  have hsel:∀ z,z ∈ l.filter (fun z=>!(dn.map (·.2.2)).toArray.contains z.2.2)→z ∈ l∧z ∉ dn:=fun z hz=>by
    obtain ⟨h2,h3⟩:=List.mem_filter.1 hz
    refine ⟨h2,fun h4=>?_⟩
    rw [(L3m hs hd h2).2 h4] at h3; cases h3
  dsimp only
  simp only [hold,hnew,Array.append_empty]
  have hgo:∀ en,(∃ z ∈ l,z ∉ dn∧en = mkE z)→wpS C.P ρ (Sem.bind (setObj k (.mapIter (some r) ck ((dn.map (·.2.2)).toArray.push en.born) ck)) fun _=>Sem.pure (.tuple #[.bool true,en.key,en.val])) σ (fun v σ'=>K v ds ρ σ'):=by
    rintro en ⟨z,h2,h3,rfl⟩
    rw [Ad]
    refine ⟨rfl,i,_,hi,rfl,?_⟩
    have:=h1 z h2 h3
    have e2:L0r r ck (dn ++ [z]) = .mapIter (some r) ck ((dn.map (·.2.2)).toArray.push (mkE z).born) ck:=by
      unfold L0r; rw [List.map_append,List.push_toArray]; rfl
    rw [e2] at this
    exact this
  cases hl:left.toList with
  | nil =>
    have:left = #[]:=by apply Array.ext'; exact hl
    subst this
    have hall:∀ z ∈ l,z ∈ dn:=fun z hz=>by
      rcases Classical.em (z ∈ dn) with h | h
      · exact h
      · exfalso
        have:z ∈ l.filter (fun z=>!(dn.map (·.2.2)).toArray.contains z.2.2):=List.mem_filter.2 ⟨hz,by
          cases hc:(dn.map (·.2.2)).toArray.contains z.2.2 with
          | false=>rfl
          | true=>exact absurd ((L3m hs hd hz).1 hc) h⟩
        have h5:(mkE z) ∈ (#[]:Array MapEntry).toList:=by rw [hleftL]; exact List.mem_map.2 ⟨z,this,rfl⟩
        cases h5
    have e4:((if (#[]:Array MapEntry).isEmpty = true then #[none] else #[]) ++ Array.map some (#[]:Array MapEntry)) = #[none]:=by simp
    rw [e4]
    show wpS C.P ρ (Sem.bind (choose (.mapNext 1)) _) σ _
    rw [Ad]
    exact h0 hall
  | cons en l' =>
    have hne:left.isEmpty = false:=by
      rw [← Array.isEmpty_toList,hl]; rfl
    have hsz:left.size = l'.length + 1:=by rw [← Array.length_toList,hl]; rfl
    have hat:∀ j,j < left.size→∃ en,left[j]? = some en∧∃ z ∈ l,z ∉ dn∧en = mkE z:=fun j hj=>by
      refine ⟨left[j],Array.getElem?_eq_getElem hj,?_⟩
      have hm2:left[j] ∈ left.toList:=Array.getElem_mem_toList hj
      rw [hleftL] at hm2
      obtain ⟨z,hz,e2⟩:=List.mem_map.1 hm2
      exact ⟨z,(hsel z hz).1,(hsel z hz).2,e2.symm⟩
    rw [hne]
    simp only [Bool.false_eq_true,if_false,Array.empty_append,Array.size_map]
    show wpS C.P ρ (Sem.bind (choose (.mapNext left.size)) _) σ _
    rw [Ad]
    show (if (Question.mapNext left.size).forced = true then _ else _)
    split
    · obtain ⟨en,h2,h3⟩:=hat 0 (by omega)
      simp only [wpS,Array.getElem?_map,h2,Option.map_some]
      exact hgo en h3
    · intro t
      obtain ⟨en,h2,h3⟩:=hat (t % left.size) (Nat.mod_lt _ (by omega))
      have e3:(Question.mapNext left.size).cut t = t % left.size:=rfl
      simp only [wpS,e3,Array.getElem?_map,h2,Option.map_some]
      exact hgo en h3
/-- The entry that was shown last. -/
theorem L5l {i k r ck n:Nat} {es:Array MapEntry} {l dn:List Ent} {z:Ent} (hs:MapL n es ck l) (hz:z ∈ l) (hx:Af e x = .pointer (some ⟨k,0,none⟩)) (hi:σ[i]? = some (k,.obj (L0r r ck (dn ++ [z])))) (hm:Has ρ σ r (.map es ck)) (h:K (.tuple #[L1h z.1,z.2.1]) ds ρ σ) :
    wpS C.P ρ (execOp (Af e) ⟨dd,.entry x,ty,pos,af,g⟩) σ (NextH C K rd ds ρ):=by
  show wpS C.P ρ ((Instr.entry (Af e x)).bind _) σ _
  refine Gd ?_
  rw [hx]
  show wpS C.P ρ ((getObj k).bind _) σ _
  rw [Ad]
  refine ⟨_,.inr (List.mem_of_getElem? hi),rfl,?_⟩
  have e1:L0r r ck (dn ++ [z]) = .mapIter (some r) ck ((dn.map (·.2.2)).toArray.push z.2.2) ck:=by
    unfold L0r; rw [List.map_append,List.push_toArray]; rfl
  rw [e1]
  simp only [wpS,Array.back?_push]
  show wpS C.P ρ ((getObj r).bind _) σ _
  rw [Ad]
  refine ⟨_,hm,rfl,?_⟩
  show wpS C.P ρ (if (ck != ck) = true then _ else _) σ _
  rw [if_neg (by simp)]
  have hf:es.find? (·.born == z.2.2) = some (mkE z):=by
    rw [← Array.find?_toList,hs.es]
    have key:∀ (l:List Ent),(l.map (·.2.2)).Nodup→z ∈ l→(l.map mkE).find? (·.born == z.2.2) = some (mkE z):=by
      intro l
      induction l with
      | nil=>intro _ h; cases h
      | cons w l ih =>
        intro hb hzl
        rw [List.map_cons,List.find?_cons]
        rw [List.map_cons,List.nodup_cons] at hb
        rcases List.mem_cons.1 hzl with rfl | hzl
        · have:((mkE z).born == z.2.2) = true:=beq_self_eq_true _
          rw [this]
        · have:((mkE w).born == z.2.2) = false:=beq_eq_false_iff_ne.2 fun h2=>hb.1 (List.mem_map.2 ⟨z,hzl,h2.symm⟩)
          rw [this]
          exact ih hb.2 hzl
    exact key l hs.born hz
  rw [hf]
  exact h
end
/-- The one that may come up,and that leaves alone what is read by those that were taken first. -/
theorem L5x {C:Ctx} {b:FB} {l₀:List Oper} {Q:Env→List Deferred→Ro→Own→Prop} {e:Env} {ds:List Deferred} {ρ ρ₀:Ro} {σ A:Own} {pz:List Nat} {fuel:Nat}
    {i:Nat} {op:Op} {ty:TypeId} {pos:String} {af:Array Edge} {g:Option (Nat × Bool)} {li:List Bool}
    (li':List Bool) (hli:li.set i true = li') (hr:Dl l₀ li = [i]) (hi:l₀[i]? = some ⟨none,op,ty,pos,af,g⟩) (hw:Bz l₀.toArray ⟨none,op,ty,pos,af,g⟩ e = true)
    (h:wpS C.P ρ (execOp (Af e) ⟨none,op,ty,pos,af,g⟩) σ (NextH C (fun _ ds' ρ' σ'=>leO ρ₀ A ρ' σ'∧El C b l₀.toArray Q pz (leO ρ₀ A) fuel li'.toArray e ds' ρ' σ') b.round ds ρ)) :
    El C b l₀.toArray Q pz (leO ρ₀ A) (fuel + 1) li.toArray e ds ρ σ:=by
  refine Mz ((Hh _ _).trans hr) (by simp) fun j hj=>?_
  rw [List.mem_singleton] at hj; subst hj
  unfold OpH
  simp only [List.getElem?_toArray,hi,Mo hli]
  rw [if_pos hw]
  exact Eu (fun nx σ' hn=>hn.mono fun v ds ρ σ hh=>⟨fun _=>hh.1,hh.2⟩) _ _ h
/-- The one that may come up,read from all that is owned. -/
theorem L9b {C:Ctx} {b:FB} {l₀:List Oper} {Q:Env→List Deferred→Ro→Own→Prop} {e:Env} {ds:List Deferred} {ρ ρ₀:Ro} {σ A:Own} {pz:List Nat} {fuel:Nat}
    {d i:Nat} {op:Op} {ty:TypeId} {pos:String} {af:Array Edge} {g:Option (Nat × Bool)} {v:Value} {li:List Bool}
    (li':List Bool) (hli:li.set i true = li') (hr:Dl l₀ li = [i]) (hi:l₀[i]? = some ⟨some d,op,ty,pos,af,g⟩) (hS:leO ρ₀ A ρ σ) (hw:Bz l₀.toArray ⟨some d,op,ty,pos,af,g⟩ e = true) (hy:L4g C.P ρ σ e op ty v)
    (h:El C b l₀.toArray Q pz (leO ρ₀ A) fuel li'.toArray (upd e d v) ds ρ σ):El C b l₀.toArray Q pz (leO ρ₀ A) (fuel + 1) li.toArray e ds ρ σ :=
  L2s li' hli hr hi hw (Eu (by rintro nx σ' ⟨rfl,rfl⟩; exact ⟨hS,h⟩) _ _ (hy ρ σ _ _ _ _ ⟨Ash,fun _ h=>h⟩))
end Go.Proofs.YtphgjjmlnkgghaaGreatDoor

namespace Go.Proofs.YtphgjjmlnkgghaaGreatDoor
open Go
abbrev MapAt (ρ:Ro) (r:Nat) (es:Array MapEntry) (ck:Nat):Prop:=ρ r = some (.map es ck)
theorem MapAt.mono {ρ ρ':Ro} {r:Nat} {es:Array MapEntry} {ck:Nat} (h:Ro.le ρ ρ') (hm:MapAt ρ r es ck):MapAt ρ' r es ck:=h _ _ hm
/-- A map that is only read: a set of states,among them t. -/
def SetS (ρ:Ro) (r:Nat) (d:Drying) (t:DryState):Prop:=∃ es ck l,MapAt ρ r es ck∧MapL 3 es ck l∧(∀ z ∈ l,∃ s,z.1 = stK s∧L2t d s)∧∃ z ∈ l,z.1 = stK t
theorem SetS.mono {ρ ρ':Ro} {r:Nat} {d:Drying} {t:DryState} (h:Ro.le ρ ρ'):SetS ρ r d t→SetS ρ' r d t:=fun ⟨es,ck,l,h1,h2⟩=>⟨es,ck,l,h1.mono h,h2⟩
theorem L3l:KeyN Tryz.prog 56 3:=⟨⟨_,rfl,Tryz.underlying56,fun i f h=>by
  match i,h with
  | 0,h=>cases h; exact ⟨by decide,rfl,Tryz.underlying3⟩
  | 1,h=>cases h; exact ⟨by decide,rfl,Tryz.underlying3⟩
  | 2,h=>cases h; exact ⟨by decide,rfl,Tryz.underlying3⟩
  | n + 3,h=>cases h⟩,by kernel_rfl⟩
theorem L6k {ρ:Ro} {d:Drying} {k:List Int} {s:DryState} (ok:DryOk d) (h:k = stK s) (hs:L2t d s):Val ρ (L1h k) s:=by
  subst h
  have:=ok.start
  have:=ok.n4
  obtain ⟨h1,h2,h3⟩:=hs
  exact DryState.shut (by constructor <;> omega) (by constructor <;> omega) (by constructor <;> omega)
theorem L4t {ρ:Ro} {v:Value} {s:DryState} (h:Val ρ v s):v = L1h (stK s):=(DryState.open_ h).1
theorem L4q {d:Drying} {es:Array MapEntry} {ck:Nat} {l:List Ent} {s:DryState} {v:Value} (hM:MapL 3 es ck l) (h:∀ z ∈ l,∃ s,z.1 = stK s∧L2t d s) (hs:L2t d s):∀ z ∈ L1x l (stK s) v ck,∃ s,z.1 = stK s∧L2t d s:=fun z hz=>by
  rcases L8z hM hz with ⟨h1,_⟩ | h1
  · exact ⟨s,h1,hs⟩
  · exact h z h1
theorem L3c {es:Array MapEntry} {ck:Nat} {l:List Ent} {a k:List Int} {v:Value} (hM:MapL 3 es ck l) (h:∃ z ∈ l,z.1 = k):∃ z ∈ L1x l a v ck,z.1 = k:=by
  obtain ⟨z,hz,rfl⟩:=h
  unfold L1x
  split
  · refine ⟨_,List.mem_map.2 ⟨z,hz,rfl⟩,?_⟩
    split <;> rfl
  · exact ⟨z,List.mem_append_left _ hz,rfl⟩
theorem L4r {es:Array MapEntry} {ck:Nat} {l:List Ent} {a:List Int} {v:Value} (hM:MapL 3 es ck l):∃ z ∈ L1x l a v ck,z.1 = a:=by
  unfold L1x
  split
  · rename_i hs
    obtain ⟨w,hw⟩:=Option.isSome_iff_exists.1 hs
    obtain ⟨z,hz,h1,_⟩:=L6z hw
    exact ⟨_,List.mem_map.2 ⟨z,hz,rfl⟩,by rw [if_pos h1]; exact h1⟩
  · exact ⟨_,List.mem_append_right _ (List.mem_singleton.2 rfl),rfl⟩
theorem L3z {α:Type} [DecidableEq α]:∀ {dn l:List α},dn.Nodup→(∀ z ∈ dn,z ∈ l)→dn.length ≤ l.length
  | [],_,_,_=>Nat.zero_le _
  | a :: dn,l,h,hs=>by
    rw [List.nodup_cons] at h
    have h1:=L3z (dn:=dn) (l:=l.erase a) h.2 fun z hz=>(List.mem_erase_of_ne (show z ≠ a from fun e=>h.1 (by rw [← e]; exact hz))).2 (hs z (List.mem_cons_of_mem _ hz))
    have h2:(l.erase a).length = l.length - 1:=List.length_erase_of_mem (hs a (List.mem_cons_self ..))
    have h3:0 < l.length:=List.length_pos_of_mem (hs a (List.mem_cons_self ..))
    rw [List.length_cons]; omega
/-- L3d entries: each one of the map's,none twice. -/
def L3d (l dn:List Ent):Prop:=(∀ z ∈ dn,z ∈ l)∧(dn.map (·.2.2)).Nodup
theorem L4d {l:List Ent}:L3d l []:=⟨fun z h=>by (cases h),List.nodup_nil⟩
theorem L2f {es:Array MapEntry} {ck:Nat} {l dn:List Ent} {z:Ent} (hM:MapL 3 es ck l) (h:L3d l dn) (hz:z ∈ l) (hn:z ∉ dn):L3d l (dn ++ [z]):=by
  refine ⟨fun w hw=>?_,?_⟩
  · rcases List.mem_append.1 hw with hw | hw
    · exact h.1 w hw
    · rw [List.mem_singleton.1 hw]; exact hz
  · rw [List.map_append,List.nodup_append]
    refine ⟨h.2,by simp,fun x hx y hy=>?_⟩
    simp only [List.map_cons,List.map_nil,List.mem_singleton] at hy
    subst hy
    intro e
    subst e
    have:=(L3m hM h.1 hz).1 (by rw [List.contains_toArray,List.contains_iff_mem]; exact hx)
    exact hn this
theorem L4c {l dn:List Ent} {es:Array MapEntry} {ck:Nat} (hM:MapL 3 es ck l) (h:L3d l dn):dn.length ≤ l.length:=by
  have:=L3z (dn:=dn.map (·.2.2)) (l:=l.map (·.2.2)) h.2 fun b hb=>by
    obtain ⟨z,hz,rfl⟩:=List.mem_map.1 hb
    exact List.mem_map.2 ⟨z,h.1 z hz,rfl⟩
  simpa using this
end Go.Proofs.YtphgjjmlnkgghaaGreatDoor

namespace Go.Proofs.YtphgjjmlnkgghaaGreatDoor
set_option maxHeartbeats 1000000
open Go
theorem L7q {d:Drying} {i:Nat} {y:DryStep} (h:d.steps[i]? = some y):L1g d i = y.damp:=by unfold L1g; rw [h]
set_option maxHeartbeats 2000000 in
set_option maxRecDepth 100000 in
theorem L7l {mn:Bool} {X:Frame→List Frame→Ro→Own→Cy→Prop} {ρ:Ro} {σ:Own} {d:Drying} {vo:Value} {i r:Nat} {heat a:Int} {t:DryState} (ro:At ρ vo (L1b d)) (hS:SetS ρ r d t) (ok:DryOk d) (hi:i < d.steps.length) (hh:0 ≤ heat∧heat ≤ (d.heats.length:Int) - 1) (hda:a ∈ L1p (L1g d i)):CallsH (CX mn X) 61 #[vo,(iV ((i:Int))),(.map (some r)),(iV (heat))] ρ σ (fun w ρ' σ'=>Ro.le ρ ρ'∧σ' = σ∧∃ r' b,w = (.tuple #[.map (some r'),.bool b])∧SetS ρ' r' d (L0f d t heat a)):=by
 have hn5:=ok.n5
 have hn4:=ok.n4
 have hsl:=L0x (d:=d)
 refine L6x (n:=50) (args:=[vo,(iV ((i:Int))),(.map (some r)),(iV (heat))]) [8,9] Tryz.func61 rfl rfl rfl rfl fun Q hret hnor=>?_
 refine w_q rfl rfl fun K1 k1=>?_
 refine Arv (Eb (v:=vo) rfl fun k2=>?_)
 refine Bb (a:=(Ptr.mk ((L1b d)))) (Ir.2 ro) fun ρ2 l2 r2=>?_
 replace hS:=SetS.mono l2 hS
 refine Arv (Eb (v:=(iV (heat))) rfl fun k3=>?_)
 refine Bb (a:=heat) (Cv.2 ⟨rfl,by constructor <;> omega⟩) fun ρ3 l3 r3=>?_
 replace hS:=SetS.mono l3 hS
 replace r2:=At.mono l3 r2
 refine l_v (Cp (v:=(.map none)) rfl) ?_
 refine l_v (Cp (v:=(.bool (false))) rfl) ?_
 refine Arx rfl rfl k1 fun K4 k4=>?_
 refine Arw (Ax L8h rfl r2) fun v5 r5=>?_
 replace r5:=Ir.1 r5
 refine l_v (Hj rfl r5) ?_
 refine Arw (Ay Stove.f_stages Tryz.underlying170 rfl rfl L2d (by decide) rfl r5) fun v6 r6=>?_
 refine Arw (Ax L2d rfl r6) fun v7 r7=>?_
 refine l_v (Ah (v:=(iV ((i:Int)))) rfl) ?_
 obtain ⟨a9,ha9⟩:=Ed (xs:=((L1b d)).stages) (i:=i) (by omega)
 obtain ⟨y_a9,hy_a9,he_a9⟩:=L3n ha9
 subst he_a9
 obtain ⟨⟨wa9_1,wa9_2,wa9_3⟩,_,_⟩:=ok.step _ _ hy_a9
 refine Arw (Ch i Tryz.underlying168 L2k rfl r7 (q:=(i:Int)) rfl rfl ha9) fun v8 r8=>?_
 refine Arw (Ax L2k rfl r8) fun v10 r10=>?_
 refine Arv (Ct L6e fun k11=>?_)
 refine Cx rfl (Dv (v:=v10) (a:=(⟨(⟨y_a9⟩:DWindow),((d.heats.length:Nat):Int)⟩:Stage)) (c:=L8k) L2k rfl rfl r10 rfl ?_)
 refine Bb (a:=(⟨(⟨y_a9⟩:DWindow),((d.heats.length:Nat):Int)⟩:Stage)) r10 fun ρ12 l12 r12=>?_
 replace hS:=SetS.mono l12 hS
 replace r2:=At.mono l12 r2
 replace r3:=At.mono l12 r3
 refine Arx rfl rfl k4 fun K13 k13=>?_
 refine Arv (Oh fun k14=>?_)
 refine Arv (Ct L9z fun k15=>?_)
 refine Arv (Ct zr4 fun k16=>?_)
 refine Cx rfl (Cz (j:=1) (v:=(.map (some k14))) ⟨_,Ab Tryz.typeInfo161,rfl⟩ rfl rfl rfl rfl (Nat.le_of_ble_eq_true rfl) ?_)
 refine Cx rfl (Cz (j:=0) (v:=(.bool (true))) ⟨_,Ab Tryz.typeInfo4,rfl⟩ rfl rfl rfl rfl (Nat.le_of_ble_eq_true rfl) ?_)
 refine Ary rfl rfl k13 fun K17 K18 k17 k18=>?_
 refine l_v (Ah (v:=(.map (some r))) rfl) ?_
 obtain ⟨eA19,cA19,lA19,hm19,hM19,hall19,ht19⟩:=id hS
 refine Arv (L5m Tryz.underlying161 rfl (.inl hm19) fun k19=>?_)
 refine l_k k18 ?_
 refine Ao ?_
 refine Cc (fun mm ee dd ρ' σ'=>∃ (bb:Bool) (ms20:List Nat) (esq:Array MapEntry) (ckq:Nat) (lq:List Ent) (dn:List Ent),(lA19.length - dn.length) = mm∧(L4m ms20) = dd∧Ro.le ρ12 ρ'∧((k19,Res.obj (L0r r cA19 dn)) :: ((k16,oC #[(.bool (bb))] 4) :: ((k15,oC #[(.map (some k14))] 161) :: ((k14,Res.obj (Obj.map esq ckq)) :: ((L0l ms20) ++ σ))))) = σ'∧ee 4 = (.pointer (some ⟨k2,0,none⟩))∧ee 7 = (.pointer (some ⟨k3,0,none⟩))∧ee 10 = (.pointer (some ⟨k11,0,none⟩))∧ee 11 = (.pointer (some ⟨k15,0,none⟩))∧ee 12 = (.pointer (some ⟨k16,0,none⟩))∧ee 25 = (.pointer (some ⟨k19,0,none⟩))∧(∀ z ∈ lq,∃ s,z.1 = stK s∧L2t d s)∧((∃ z ∈ dn,z.1 = stK t)→∃ z ∈ lq,z.1 = stK (L0f d t heat a))∧(MapL 3 esq ckq lq)∧(L3d lA19 dn)∧True) (m:=_) ⟨true,[],#[],0,[],[],rfl,rfl,Ash,rfl,rfl,rfl,rfl,rfl,rfl,rfl,(fun z h=>by (cases h)),(fun ⟨z,h,_⟩=>by (cases h)),L2q,L4d,trivial⟩ ?_
 rintro m20 e20 _ ρ20 _ ⟨bb,ms20,esq,ckq,lq,dn,rfl,rfl,l20,rfl,h20_4,h20_7,h20_10,h20_11,h20_12,h20_25,p20_0,p20_1,p20_2,p20_3,_⟩
 replace r2:=At.mono l20 r2
 replace r3:=At.mono l20 r3
 replace r12:=At.mono l20 r12
 replace hm19:=MapAt.mono l20 hm19
 refine w_q rfl rfl fun K21 k21=>?_
 refine Arv (L6r (i:=0) hM19 p20_3.1 h20_25 rfl (.inl hm19) (fun hend22=>?_) (fun z22 hz22 hn22=>?_))
 ·refine l_v (Bk (vs:=#[(.bool (false))]) rfl (v:=(.bool (false))) rfl) ?_
  refine Asa k21 fun K23 k23=>?_
  refine Cg rfl rfl ?_
  refine Bx ?_
  apply k17
  refine Ai fun K24 k24=>?_
  refine Aj (Asg ((p_c ((p_c Arz).trans Arz)).trans Arz)) ?_
  refine Wo fun ρ25 l25 hfz25=>?_
  have hSS:SetS ρ25 k14 d (L0f d t heat a):=⟨_,_,_,hfz25,p20_2,p20_0,p20_1 (by obtain ⟨w,hw,e⟩:=ht19; exact ⟨w,hend22 w hw,e⟩)⟩
  refine L1o (((k19,Res.obj (L0r r cA19 dn)) :: ((k16,oC #[(.bool (bb))] 4) :: ((k15,oC #[(.map (some k14))] 161) :: ((L0l ms20) ++ []))))) [0,1] (by kernel_rfl) rfl rfl ?_
  refine L0q (i:=0) [o1,o0,o0,o0] rfl (by kernel_rfl) rfl ⟨Ash,(by repeat first | exact L0e | refine L0b ?_ | refine L0c ?_ | refine L0a ?_ | refine L0d ?_)⟩ rfl (L1c (v:=(.map (some k14))) ⟨_,Tryz.underlying161,rfl⟩ h20_11 (List.mem_cons_of_mem _ (List.mem_cons_of_mem _ (List.mem_cons_self ..))) rfl) ?_
  refine L0q (i:=1) [o1,o1,o0,o0] rfl (by kernel_rfl) rfl ⟨Ash,(by repeat first | exact L0e | refine L0b ?_ | refine L0c ?_ | refine L0a ?_ | refine L0d ?_)⟩ rfl (L1c (v:=(.bool (bb))) ⟨_,Tryz.underlying4,rfl⟩ h20_12 (List.mem_cons_of_mem _ (List.mem_cons_self ..)) rfl) ?_
  refine L0j (i:=2) [o1,o1,o1,o0] rfl (by kernel_rfl) rfl ⟨Ash,(by repeat first | exact L0e | refine L0b ?_ | refine L0c ?_ | refine L0a ?_ | refine L0d ?_)⟩ rfl (Yld.o (Cp (v:=(.map (some k14))) rfl)) ⟨Ash,(by repeat first | exact L0e | refine L0b ?_ | refine L0c ?_ | refine L0a ?_ | refine L0d ?_)⟩ ?_
  refine L0j (i:=3) [o1,o1,o1,o1] rfl (by kernel_rfl) rfl ⟨Ash,(by repeat first | exact L0e | refine L0b ?_ | refine L0c ?_ | refine L0a ?_ | refine L0d ?_)⟩ rfl (Yld.o (Cp (v:=(.bool (bb))) rfl)) ⟨Ash,(by repeat first | exact L0e | refine L0b ?_ | refine L0c ?_ | refine L0a ?_ | refine L0d ?_)⟩ ?_
  refine L2r rfl ?_
  apply k24
  refine Aj Ghost.drop ?_
  refine Aj Ghost.drop ?_
  refine Aj Ghost.drop ?_
  refine Aq ?_
  refine hret _ _ _ (ms20) ?_
  refine ⟨(Asi (Asi (Asi (Asi l2 l3) l12) l20) l25),rfl,k14,bb,Eq.trans (b:=.tuple #[.map (some k14),.bool (bb)]) (Mp (r:=8) (r':=9) (rs:=[]) (v:=.map (some k14)) (v':=.bool (bb)) (vs:=[]) ⟨rfl,rfl,trivial⟩) rfl,hSS⟩
 obtain ⟨s22,hs22,ho22⟩:=hall19 _ hz22
 have r22:=L6k (ρ:=ρ20) ok hs22 ho22
 refine l_v (Bk (vs:=#[(.bool (true)),(L1h z22.1),z22.2.1]) rfl (v:=(.bool (true))) rfl) ?_
 refine Asa k21 fun K26 k26=>?_
 refine Co rfl rfl ?_
 refine Al ?_
 apply k26
 refine Ao ?_
 refine w_q rfl rfl fun K27 k27=>?_
 refine Arv (L5l (i:=0) hM19 hz22 h20_25 rfl (.inl hm19) ?_)
 refine l_v (Bk (vs:=#[(L1h z22.1),z22.2.1]) rfl (v:=(L1h z22.1)) rfl) ?_
 refine Arv (Ct L2x fun k28=>?_)
 refine Cx rfl (Dv (v:=(L1h z22.1)) (a:=s22) (c:=L6b) L0o rfl rfl r22 rfl ?_)
 refine Bb (a:=s22) r22 fun ρ29 l29 r29=>?_
 replace r2:=At.mono l29 r2
 replace r3:=At.mono l29 r3
 replace r12:=At.mono l29 r12
 refine Arx rfl rfl k27 fun K30 k30=>?_
 refine Arw (Ay Stage.f_window Tryz.underlying167 rfl rfl L2w (by decide) h20_10 r12) fun v31 r31=>?_
 refine Arw (Ax L2w rfl r31) fun v32 r32=>?_
 refine Arv (Cm (vs:=[v32]) (L8q r32 (by simp only; omega)) Tryz.func115 rfl rfl ⟨rfl,trivial⟩ fun v33 ρ33 σ33 hc33=>?_)
 obtain ⟨l33,s33,r33⟩:=hc33
 replace s33:=s33.symm; subst s33
 replace r2:=At.mono l33 r2
 replace r3:=At.mono l33 r3
 replace r12:=At.mono l33 r12
 replace r29:=At.mono l33 r29
 refine l_k k30 ?_
 refine Ao ?_
 refine Aab ?_
 refine Hs (ys:=(L1p ((⟨y_a9⟩:DWindow)).step.damp).map (fun x:Int=>Value.int .i64 x)) (fun pre ρ' τ=>∃ (l1:List Int) (bb:Bool) (esq:Array MapEntry) (ckq:Nat) (lq:List Ent),pre = l1.map (fun x:Int=>Value.int .i64 x)∧((k19,Res.obj (L0r r cA19 ((dn ++ [z22])))) :: ((k16,oC #[(.bool (bb))] 4) :: ((k15,oC #[(.map (some k14))] 161) :: ((k14,Res.obj (Obj.map esq ckq)) :: ((L0l ms20) ++ σ))))) = τ∧(∀ z ∈ lq,∃ s,z.1 = stK s∧L2t d s)∧((∃ z ∈ dn,z.1 = stK t)→∃ z ∈ lq,z.1 = stK (L0f d t heat a))∧(s22 = t→a ∈ l1→∃ z ∈ lq,z.1 = stK (L0f d t heat a))∧(MapL 3 esq ckq lq)∧True) rfl rfl (Nat.le_of_ble_eq_true rfl) rfl r33 ?_ ?_ ?_ ?_
 ·exact fun _ _ _ _ _ h=>h
 ·exact ⟨[],bb,esq,ckq,lq,rfl,rfl,p20_0,p20_1,(fun _ h=>by (cases h)),p20_2,trivial⟩
 ·rintro l34_ _ x34 post34 ρ34 _ hys34 l34 ⟨l1,bb,esq,ckq,lq,rfl,rfl,p34_0,p34_1,p34_2,p34_3,_⟩ pfx34
  obtain ⟨a34,l2_34,hl34,rfl⟩:=Ly M0c hys34
  replace r2:=At.mono l34 r2
  replace r3:=At.mono l34 r3
  replace r12:=At.mono l34 r12
  replace r29:=At.mono l34 r29
  refine Aj (σ':=((k19,Res.obj (L0r r cA19 ((dn ++ [z22])))) :: ((k16,Res.obj (Obj.cells #[(.bool (bb))] 4 (0,0))) :: ((k15,Res.obj (Obj.cells #[(.map (some k14))] 161 (0,0))) :: ((k14,Res.obj (Obj.map esq ckq)) :: ((L0l ms20) ++ (pfx34 ++ σ))))))) (Asg (by first | exact Fe pfx34 (([(k19,Res.obj (L0r r cA19 ((dn ++ [z22])))),(k16,Res.obj (Obj.cells #[(.bool (bb))] 4 (0,0))),(k15,Res.obj (Obj.cells #[(.map (some k14))] 161 (0,0))),(k14,Res.obj (Obj.map esq ckq))] ++ (L0l ms20))) σ | simpa only [List.append_assoc,List.cons_append,List.nil_append,List.set_cons_zero] using Fe pfx34 (([(k19,Res.obj (L0r r cA19 ((dn ++ [z22])))),(k16,Res.obj (Obj.cells #[(.bool (bb))] 4 (0,0))),(k15,Res.obj (Obj.cells #[(.map (some k14))] 161 (0,0))),(k14,Res.obj (Obj.map esq ckq))] ++ (L0l ms20))) σ)) ?_
  have hdm:=L3y.1 (show a34 ∈ L1p y_a9.damp by (rw [show L1p y_a9.damp = _ from hl34]; simp))
  refine Ag rfl rfl ?_
  refine l_v (Cp (v:=(iV (a34))) rfl) ?_
  refine Bj (σ':=pfx34 ++ ((k19,Res.obj (L0r r cA19 ((dn ++ [z22])))) :: ((k16,Res.obj (Obj.cells #[(.bool (bb))] 4 (0,0))) :: ((k15,Res.obj (Obj.cells #[(.map (some k14))] 161 (0,0))) :: ((k14,Res.obj (Obj.map esq ckq)) :: ((L0l ms20) ++ σ)))))) (Asg (by first | exact Fe (([(k19,Res.obj (L0r r cA19 ((dn ++ [z22])))),(k16,Res.obj (Obj.cells #[(.bool (bb))] 4 (0,0))),(k15,Res.obj (Obj.cells #[(.map (some k14))] 161 (0,0))),(k14,Res.obj (Obj.map esq ckq))] ++ (L0l ms20))) pfx34 σ | simpa only [List.append_assoc,List.cons_append,List.nil_append,List.set_cons_zero] using Fe (([(k19,Res.obj (L0r r cA19 ((dn ++ [z22])))),(k16,Res.obj (Obj.cells #[(.bool (bb))] 4 (0,0))),(k15,Res.obj (Obj.cells #[(.map (some k14))] 161 (0,0))),(k14,Res.obj (Obj.map esq ckq))] ++ (L0l ms20))) pfx34 σ)) ?_
  apply Ac
  refine ⟨rfl,rfl,Ash,_,rfl,?_⟩
  intro pfy34
  refine Aj (σ':=((k19,Res.obj (L0r r cA19 ((dn ++ [z22])))) :: ((k16,Res.obj (Obj.cells #[(.bool (bb))] 4 (0,0))) :: ((k15,Res.obj (Obj.cells #[(.map (some k14))] 161 (0,0))) :: ((k14,Res.obj (Obj.map esq ckq)) :: ((L0l ms20) ++ (pfy34 ++ σ))))))) (Asg (by first | exact Fe pfy34 (([(k19,Res.obj (L0r r cA19 ((dn ++ [z22])))),(k16,Res.obj (Obj.cells #[(.bool (bb))] 4 (0,0))),(k15,Res.obj (Obj.cells #[(.map (some k14))] 161 (0,0))),(k14,Res.obj (Obj.map esq ckq))] ++ (L0l ms20))) σ | simpa only [List.append_assoc,List.cons_append,List.nil_append,List.set_cons_zero] using Fe pfy34 (([(k19,Res.obj (L0r r cA19 ((dn ++ [z22])))),(k16,Res.obj (Obj.cells #[(.bool (bb))] 4 (0,0))),(k15,Res.obj (Obj.cells #[(.map (some k14))] 161 (0,0))),(k14,Res.obj (Obj.map esq ckq))] ++ (L0l ms20))) σ)) ?_
  refine Ao ?_
  refine w_q rfl rfl fun K35 k35=>?_
  refine Arw (Ax L8h h20_4 r2) fun v36 r36=>?_
  replace r36:=Ir.1 r36
  refine Arw (Ax L0o rfl r29) fun v37 r37=>?_
  have ⟨g38a,g38b⟩:=At.rng r3
  refine l_v (Bc ty3 h20_7 r3) ?_
  refine l_v (Ah (v:=(iV (a34))) rfl) ?_
  have hno39:=L6m (d:=d) (s:=s22) (heat:=heat) (damp:=a34) ok ho22 hh (by omega)
  refine Arv (Cm (vs:=[v36,v37,(iV (heat)),(iV (a34))]) (L7m r36 r37 ok ho22 hh (by omega)) Tryz.func63 rfl rfl ⟨rfl,rfl,rfl,rfl,trivial⟩ fun v40 ρ40 σ40 hc40=>?_)
  obtain ⟨l40,s40,r40⟩:=hc40
  replace s40:=s40.symm; subst s40
  replace r12:=At.mono l40 r12
  refine Arv (Ct L2x fun k41=>?_)
  refine Cx rfl (Dv (v:=v40) (a:=L0f d s22 heat a34) (c:=L6b) L0o rfl rfl r40 rfl ?_)
  refine Bb (a:=L0f d s22 heat a34) r40 fun ρ42 l42 r42=>?_
  replace r12:=At.mono l42 r12
  refine l_k k35 ?_
  refine Aab ?_
  refine L1o (((k19,Res.obj (L0r r cA19 ((dn ++ [z22])))) :: ((k16,oC #[(.bool (bb))] 4) :: ((k15,oC #[(.map (some k14))] 161) :: ((L0l ms20) ++ []))))) [0,1,2,3,4,5,6,7,8] (by kernel_rfl) rfl rfl ?_
  refine L0q (i:=0) [o1,o0,o0,o0,o0,o0,o0,o0,o0,o0,o0] rfl (by kernel_rfl) rfl ⟨Ash,(by repeat first | exact L0e | refine L0b ?_ | refine L0c ?_ | refine L0a ?_ | refine L0d ?_)⟩ rfl (L1c (v:=(.map (some k14))) ⟨_,Tryz.underlying161,rfl⟩ h20_11 (List.mem_cons_of_mem _ (List.mem_cons_of_mem _ (List.mem_cons_self ..))) rfl) ?_
  refine L2j (i:=1) [o1,o1,o0,o0,o0,o0,o0,o0,o0,o0,o0] rfl (by kernel_rfl) rfl ⟨Ash,(by repeat first | exact L0e | refine L0b ?_ | refine L0c ?_ | refine L0a ?_ | refine L0d ?_)⟩ rfl (L1d (Ax L0o rfl r42)) fun v43 r43=>?_
  refine L0j (i:=2) [o1,o1,o1,o0,o0,o0,o0,o0,o0,o0,o0] rfl (by kernel_rfl) rfl ⟨Ash,(by repeat first | exact L0e | refine L0b ?_ | refine L0c ?_ | refine L0a ?_ | refine L0d ?_)⟩ rfl (L1c (v:=(.bool (bb))) ⟨_,Tryz.underlying4,rfl⟩ h20_12 (List.mem_cons_of_mem _ (List.mem_cons_self ..)) rfl) ⟨Ash,(by repeat first | exact L0e | refine L0b ?_ | refine L0c ?_ | refine L0a ?_ | refine L0d ?_)⟩ ?_
  refine L0j (i:=3) [o1,o1,o1,o1,o0,o0,o0,o0,o0,o0,o0] rfl (by kernel_rfl) rfl ⟨Ash,(by repeat first | exact L0e | refine L0b ?_ | refine L0c ?_ | refine L0a ?_ | refine L0d ?_)⟩ rfl (Yld.o (Ah (v:=(.bool (bb))) rfl)) ⟨Ash,(by repeat first | exact L0e | refine L0b ?_ | refine L0c ?_ | refine L0a ?_ | refine L0d ?_)⟩ ?_
  refine L9a (bb) (fun b44=>?_) (fun b44=>?_)
  ·refine L2j (i:=4) [o1,o1,o1,o1,o1,o0,o0,o0,o0,o0,o0] rfl (by kernel_rfl) rfl ⟨Ash,(by repeat first | exact L0e | refine L0b ?_ | refine L0c ?_ | refine L0a ?_ | refine L0d ?_)⟩ (Ar rfl rfl rfl b44) (L1d (Ay Stage.f_window Tryz.underlying167 rfl rfl L2w (by decide) h20_10 r12)) fun v45 r45=>?_
   refine L2j (i:=5) Aop rfl (by kernel_rfl) rfl ⟨Ash,(by repeat first | exact L0e | refine L0b ?_ | refine L0c ?_ | refine L0a ?_ | refine L0d ?_)⟩ (Ar rfl rfl rfl b44) (L1d (Ax L2w rfl r45)) fun v46 r46=>?_
   refine L1u (i:=6) zZ2 rfl (by kernel_rfl) rfl ⟨Ash,(by repeat first | exact L0e | refine L0b ?_ | refine L0c ?_ | refine L0a ?_ | refine L0d ?_)⟩ (Ar rfl rfl rfl b44) (L1d (Ax L0o rfl r42)) ⟨Ash,(by repeat first | exact L0e | refine L0b ?_ | refine L0c ?_ | refine L0a ?_ | refine L0d ?_)⟩ fun v47 r47=>?_
   refine L2s (i:=7) zZ3 rfl (by kernel_rfl) rfl (Ar rfl rfl rfl b44) (Bm (L8r r46 r47) Tryz.func116 rfl rfl ⟨rfl,rfl,trivial⟩ ⟨⟨Ash,(by repeat first | exact L0e | refine L0b ?_ | refine L0c ?_ | refine L0a ?_ | refine L0d ?_)⟩,?_⟩)
   refine L0q (i:=8) zZ4 rfl (by kernel_rfl) rfl ⟨Ash,(by repeat first | exact L0e | refine L0b ?_ | refine L0c ?_ | refine L0a ?_ | refine L0d ?_)⟩ rfl (Yld.o (Bt rfl b44 (v:=(.bool (L2y ((⟨y_a9⟩:DWindow)) (L0f d s22 heat a34)))) rfl)) ?_
   refine L5x (i:=9) zZ5 rfl (by kernel_rfl) rfl rfl (L8i (i:=3) (a:=stK (L0f d s22 heat a34)) (w:=(.bool (true))) Tryz.underlying161 L3l p34_3 rfl rfl (rfl.trans (L4t r43)) rfl rfl fun es48 ck48 ML48=>⟨⟨Ash,(by repeat first | exact L0e | refine L0b ?_ | refine L0c ?_ | refine L0a ?_ | refine L0d ?_)⟩,?_⟩)
   refine L1t (i:=10) zZ6 rfl (by kernel_rfl) (by kernel_rfl) rfl rfl (Cz (j:=1) (v:=(.bool (L2y ((⟨y_a9⟩:DWindow)) (L0f d s22 heat a34)))) ⟨_,Ab Tryz.typeInfo4,rfl⟩ h20_12 rfl rfl rfl (Nat.le_of_ble_eq_true rfl) ?_)
   refine L2r rfl ?_
   show Vl _ .normal _ _ _ _
   refine Yn (σ':=pfy34 ++ ((k19,Res.obj (L0r r cA19 ((dn ++ [z22])))) :: ((k16,Res.obj (Obj.cells #[(.bool (L2y ((⟨y_a9⟩:DWindow)) (L0f d s22 heat a34)))] 4 (0,0))) :: ((k15,Res.obj (Obj.cells #[(.map (some k14))] 161 (0,0))) :: ((k14,Res.obj (Obj.map es48 ck48)) :: ((L0l ms20) ++ σ)))))) (Asg (by simpa only [List.append_assoc,List.cons_append,List.nil_append,List.set_cons_zero,List.set_cons_succ] using Fe (([(k19,Res.obj (L0r r cA19 ((dn ++ [z22])))),(k16,Res.obj (Obj.cells #[(.bool (L2y ((⟨y_a9⟩:DWindow)) (L0f d s22 heat a34)))] 4 (0,0))),(k15,Res.obj (Obj.cells #[(.map (some k14))] 161 (0,0))),(k14,Res.obj (Obj.map es48 ck48))] ++ (L0l ms20))) pfy34 σ)) ?_
   refine Adc ?_
   refine ⟨rfl,(Asi l40 l42),_,rfl,l1 ++ [a34],(L2y ((⟨y_a9⟩:DWindow)) (L0f d s22 heat a34)),(es48),(ck48),((L1x lq (stK (L0f d s22 heat a34)) (.bool (true)) ckq)),(by simp),rfl,(L4q p34_3 p34_0 hno39),(fun h=>L3c p34_3 (p34_1 h)),(fun e hm=>by rcases List.mem_append.1 hm with hm | hm; exact L3c p34_3 (p34_2 e hm); (rw [List.mem_singleton.1 hm,← e]; exact L4r p34_3)),ML48,trivial⟩
  refine L4p (i:=4) [o1,o1,o1,o1,o1,o0,o0,o0,o0,o0,o0] rfl (by kernel_rfl) rfl ⟨Ash,(by repeat first | exact L0e | refine L0b ?_ | refine L0c ?_ | refine L0a ?_ | refine L0d ?_)⟩ (Bl rfl rfl rfl b44) ?_
  refine L4p (i:=5) Aop rfl (by kernel_rfl) rfl ⟨Ash,(by repeat first | exact L0e | refine L0b ?_ | refine L0c ?_ | refine L0a ?_ | refine L0d ?_)⟩ (Bl rfl rfl rfl b44) ?_
  refine L4p (i:=6) zZ2 rfl (by kernel_rfl) rfl ⟨Ash,(by repeat first | exact L0e | refine L0b ?_ | refine L0c ?_ | refine L0a ?_ | refine L0d ?_)⟩ (Bl rfl rfl rfl b44) ?_
  refine L4p (i:=7) zZ3 rfl (by kernel_rfl) rfl ⟨Ash,(by repeat first | exact L0e | refine L0b ?_ | refine L0c ?_ | refine L0a ?_ | refine L0d ?_)⟩ (Bl rfl rfl rfl b44) ?_
  refine L0q (i:=8) zZ4 rfl (by kernel_rfl) rfl ⟨Ash,(by repeat first | exact L0e | refine L0b ?_ | refine L0c ?_ | refine L0a ?_ | refine L0d ?_)⟩ rfl (Yld.o (Bn rfl b44 (v:=(.bool (false))) rfl)) ?_
  refine L5x (i:=9) zZ5 rfl (by kernel_rfl) rfl rfl (L8i (i:=3) (a:=stK (L0f d s22 heat a34)) (w:=(.bool (true))) Tryz.underlying161 L3l p34_3 rfl rfl (rfl.trans (L4t r43)) rfl rfl fun es49 ck49 ML49=>⟨⟨Ash,(by repeat first | exact L0e | refine L0b ?_ | refine L0c ?_ | refine L0a ?_ | refine L0d ?_)⟩,?_⟩)
  refine L1t (i:=10) zZ6 rfl (by kernel_rfl) (by kernel_rfl) rfl rfl (Cz (j:=1) (v:=(.bool (false))) ⟨_,Ab Tryz.typeInfo4,rfl⟩ h20_12 rfl rfl rfl (Nat.le_of_ble_eq_true rfl) ?_)
  refine L2r rfl ?_
  show Vl _ .normal _ _ _ _
  refine Yn (σ':=pfy34 ++ ((k19,Res.obj (L0r r cA19 ((dn ++ [z22])))) :: ((k16,Res.obj (Obj.cells #[(.bool (false))] 4 (0,0))) :: ((k15,Res.obj (Obj.cells #[(.map (some k14))] 161 (0,0))) :: ((k14,Res.obj (Obj.map es49 ck49)) :: ((L0l ms20) ++ σ)))))) (Asg (by simpa only [List.append_assoc,List.cons_append,List.nil_append,List.set_cons_zero,List.set_cons_succ] using Fe (([(k19,Res.obj (L0r r cA19 ((dn ++ [z22])))),(k16,Res.obj (Obj.cells #[(.bool (false))] 4 (0,0))),(k15,Res.obj (Obj.cells #[(.map (some k14))] 161 (0,0))),(k14,Res.obj (Obj.map es49 ck49))] ++ (L0l ms20))) pfy34 σ)) ?_
  refine Adc ?_
  refine ⟨rfl,(Asi l40 l42),_,rfl,l1 ++ [a34],(false),(es49),(ck49),((L1x lq (stK (L0f d s22 heat a34)) (.bool (true)) ckq)),(by simp),rfl,(L4q p34_3 p34_0 hno39),(fun h=>L3c p34_3 (p34_1 h)),(fun e hm=>by rcases List.mem_append.1 hm with hm | hm; exact L3c p34_3 (p34_2 e hm); (rw [List.mem_singleton.1 hm,← e]; exact L4r p34_3)),ML49,trivial⟩
 ·rintro k50 ρ50 _ l50 ⟨l1,bb,esq,ckq,lq,hpre50,rfl,p34_0,p34_1,p34_2,p34_3,_⟩
  obtain rfl:=Nf M0c hpre50
  refine Yn (σ':=((k19,Res.obj (L0r r cA19 ((dn ++ [z22])))) :: ((k16,Res.obj (Obj.cells #[(.bool (bb))] 4 (0,0))) :: ((k15,Res.obj (Obj.cells #[(.map (some k14))] 161 (0,0))) :: ((k14,Res.obj (Obj.map esq ckq)) :: ((L0l (k50 :: ms20)) ++ σ)))))) (Asg (by first | exact Fe [(k50,Res.obj (Obj.deferred (some [])))] ([(k19,Res.obj (L0r r cA19 ((dn ++ [z22])))),(k16,Res.obj (Obj.cells #[(.bool (bb))] 4 (0,0))),(k15,Res.obj (Obj.cells #[(.map (some k14))] 161 (0,0))),(k14,Res.obj (Obj.map esq ckq))]) ((L0l ms20) ++ σ) | simpa only [List.append_assoc,List.cons_append,List.nil_append,List.set_cons_zero] using Fe [(k50,Res.obj (Obj.deferred (some [])))] ([(k19,Res.obj (L0r r cA19 ((dn ++ [z22])))),(k16,Res.obj (Obj.cells #[(.bool (bb))] 4 (0,0))),(k15,Res.obj (Obj.cells #[(.map (some k14))] 161 (0,0))),(k14,Res.obj (Obj.map esq ckq))]) ((L0l ms20) ++ σ))) ?_
  refine Adc ?_
  refine ⟨_,?_,(bb),((k50 :: ms20)),(esq),(ckq),(lq),((dn ++ [z22])),rfl,rfl,(Asi (Asi (Asi l20 l29) l33) l50),rfl,h20_4,h20_7,h20_10,h20_11,h20_12,h20_25,p34_0,(fun ⟨w,hw,e⟩=>by rcases List.mem_append.1 hw with hw | hw; exact p34_1 ⟨w,hw,e⟩; (rw [List.mem_singleton.1 hw] at e; exact p34_2 (L6q (hs22.symm.trans e)) (by rw [show (⟨y_a9⟩:DWindow).step.damp = L1g d i from (L7q hy_a9).symm]; exact hda))),p34_3,(L2f hM19 p20_3 hz22 hn22),trivial⟩
  have hdl:=L4c hM19 (L2f hM19 p20_3 hz22 hn22)
  simp only [List.length_append,List.length_cons,List.length_nil] at *; omega
end Go.Proofs.YtphgjjmlnkgghaaGreatDoor

namespace Go.Proofs.YtphgjjmlnkgghaaGreatDoor
set_option maxHeartbeats 1000000
open Go
set_option maxHeartbeats 2000000 in
set_option maxRecDepth 100000 in
theorem L8p {mn:Bool} {X:Frame→List Frame→Ro→Own→Cy→Prop} {ρ:Ro} {σ:Own} {d:Drying} {vd:Value} {plan air:List Int} {vp:Value} (rd:Val ρ vd d) (rp:Val ρ vp plan) (hd:L0v d = 0) (hp:L1k d plan = 0) (ha:AirOk d air):CallsH (CX mn X) 19 #[vd,vp] ρ σ (fun w ρ' σ'=>ρ' = ρ∧σ' = σ∧∃ v u a b c e,w = (.tuple #[v,u,.int .i64 0])∧Val ρ' v (⟨a,b⟩:Span)∧Val ρ' u (⟨c,e⟩:Span)∧0 ≤ a∧b ≤ d.start.water∧a ≤ d.start.water - (L1r d plan air plan.length).water∧d.start.water - (L1r d plan air plan.length).water ≤ b):=by
 have ok:=L3i hd
 have hn5:=ok.n5
 have hst:=ok.start
 obtain ⟨hpl,hpi⟩:=L1z hp
 refine Lt (n:=92) (args:=[vd,vp]) [.cell 4 41,.cell 5 41,.tmp 6] Tryz.func19 rfl rfl rfl rfl fun Q hret hnor=>?_
 refine w_q rfl rfl fun K1 k1=>?_
 refine Arv (Eb (v:=vd) rfl fun k2=>?_)
 refine Bb (a:=d) rd fun ρ2 l2 r2=>?_
 replace rp:=Asj l2 rp
 refine Arv (Ct Aak fun k3=>?_)
 refine Arv (Ct Aak fun k4=>?_)
 refine l_v (Cp (v:=(iV (0))) rfl) ?_
 refine Arx rfl rfl k1 fun K5 k5=>?_
 refine Arw (Ax L0t rfl r2) fun v6 r6=>?_
 refine l_v (Ah (v:=vp) rfl) ?_
 refine Arv (Cm (vs:=[v6,vp]) (L3w r6 rp hd hp) Tryz.func60 rfl rfl ⟨rfl,rfl,trivial⟩ fun w7 ρ7 σ7 hc7=>?_)
 obtain ⟨l7,s7,v7,hw7,r7⟩:=hc7
 replace s7:=s7.symm; subst s7 hw7
 replace rp:=Asj l7 rp
 replace r2:=At.mono l7 r2
 refine l_v (Ah (v:=(.tuple #[v7,(iV (0))])) rfl) ?_
 refine l_v (Bk (vs:=#[v7,(iV (0))]) rfl (v:=v7) rfl) ?_
 refine l_v (Bk (vs:=#[v7,(iV (0))]) rfl (v:=(iV (0))) rfl) ?_
 refine l_v (Cp (v:=v7) rfl) ?_
 refine l_v (Cp (v:=(iV (0))) rfl) ?_
 refine Ary rfl rfl k5 fun K8 K9 k8 k9=>?_
 refine l_v (Ah (v:=(iV (0))) rfl) ?_
 refine l_v (Dg rfl rfl) ?_
 refine l_k k9 ?_
 refine Cg rfl rfl ?_
 refine Al ?_
 apply k8
 refine w_q rfl rfl fun K10 k10=>?_
 refine Arv (Oh fun k11=>?_)
 refine Arw (Ay Drying.f_start Tryz.underlying59 rfl rfl L0o (by decide) rfl r2) fun v12 r12=>?_
 refine Arw (Ax L0o rfl r12) fun v13 r13=>?_
 refine Cx rfl (L9v (i:=0) (a:=stK d.start) (w:=(.bool (true))) Tryz.underlying161 L3l L2q rfl rfl (rfl.trans (L4t r13)) rfl rfl fun es14 ck14 ML14=>?_)
 refine l_v (Ah (v:=(.map (some k11))) rfl) ?_
 refine l_v (Cp (v:=(.map (some k11))) rfl) ?_
 refine Asa k10 fun K15 k15=>?_
 refine Ai fun K16 k16=>?_
 refine Wo fun ρ17 l17 hfz17=>?_
 replace rp:=Asj l17 rp
 replace r2:=At.mono l17 r2
 replace r7:=At.mono l17 r7
 have hS0:SetS ρ17 k11 d d.start:=⟨_,_,_,hfz17,ML14,L4q L2q (fun z h=>by (cases h)) (by exact ⟨⟨by omega,by omega⟩,hst.2.1,hst.2.2⟩),L4r L2q⟩
 refine Ag rfl rfl ?_
 refine l_v (Ah (v:=vp) rfl) ?_
 have g18:=Val.len rp
 refine l_v (Ci (el:=3) Tryz.underlying49 rfl rp) ?_
 refine l_v (Ah (v:=(iV (0))) rfl) ?_
 refine l_k k16 ?_
 refine Ao ?_
 refine Cc (fun mm ee dd ρ' σ'=>∃ (i:Nat) (r:Nat),(plan.length - i) = mm∧[] = dd∧Ro.le ρ17 ρ'∧((k4,oC #[(iV (0)),(iV (0))] 41) :: ((k3,oC #[(iV (0)),(iV (0))] 41) :: σ)) = σ'∧ee 2 = (.pointer (some ⟨k2,0,none⟩))∧ee 4 = (.pointer (some ⟨k3,0,none⟩))∧ee 5 = (.pointer (some ⟨k4,0,none⟩))∧ee 7 = v7∧ee 30 = vp∧ee 31 = (iV (((plan.length:Nat):Int)))∧ee 8 = (.map (some r))∧ee 32 = (iV ((i:Int)))∧(i ≤ plan.length)∧(SetS ρ' r d (L1r d plan air i))∧True) (m:=_) ⟨0,k11,rfl,rfl,Ash,rfl,rfl,rfl,rfl,rfl,rfl,rfl,rfl,rfl,(Nat.zero_le _),hS0,trivial⟩ ?_
 rintro m19 e19 _ ρ19 _ ⟨i,r,rfl,rfl,l19,rfl,h19_2,h19_4,h19_5,h19_7,h19_30,h19_31,h19_8,h19_32,p19_0,p19_1,_⟩
 replace rp:=Asj l19 rp
 replace r2:=At.mono l19 r2
 replace r7:=At.mono l19 r7
 have hFS:=p19_1
 refine w_q rfl rfl fun K20 k20=>?_
 refine l_v (Da h19_32 h19_31) ?_
 refine Asa k20 fun K21 k21=>?_
 refine As (t:=decide ((i:Int) < ((plan.length:Nat):Int))) rfl (fun b22=>?_) (fun b22=>?_)
 ·have q22:=of_decide_eq_true b22
  refine Al ?_
  apply k21
  refine Ai fun K23 k23=>?_
  refine Ao ?_
  refine w_q rfl rfl fun K24 k24=>?_
  refine l_v (Ah (v:=(iV ((i:Int)))) h19_32) ?_
  obtain ⟨a26,ha26⟩:=Ed (xs:=plan) (i:=i) (by omega)
  have hpg:plan.getD i 0 = a26:=by rw [List.getD_eq_getElem?_getD,ha26]; rfl
  refine Arw (Ch i Tryz.underlying49 ty3 h19_30 rp (q:=(i:Int)) h19_32 rfl ha26) fun v25 r25=>?_
  have ⟨g27a,g27b⟩:=At.rng r25
  refine l_v (Bc ty3 rfl r25) ?_
  refine l_v (Cp (v:=(iV ((i:Int)))) rfl) ?_
  refine l_v (Cp (v:=(iV (a26))) rfl) ?_
  refine l_k k24 ?_
  refine Ag rfl rfl ?_
  refine l_v (Ah (v:=v7) h19_7) ?_
  refine l_v (Ah (v:=(iV ((i:Int)))) rfl) ?_
  refine l_v (Ah (v:=(.map (some r))) h19_8) ?_
  refine l_v (Ah (v:=(iV (a26))) rfl) ?_
  refine Arv (Cm (vs:=[v7,(iV ((i:Int))),(.map (some r)),(iV (a26))]) (L7l r7 hFS ok (by omega) ((L1z hp).2 i (by omega) |> fun h=>by rw [hpg] at h; exact h) (L3y.2 (ha.at_ i (by omega)))) Tryz.func61 rfl rfl ⟨rfl,rfl,rfl,rfl,trivial⟩ fun w28 ρ28 σ28 hc28=>?_)
  obtain ⟨l28,s28,q28,b28,hw28,r28⟩:=hc28
  replace s28:=s28.symm; subst s28 hw28
  refine l_v (Ah (v:=(.tuple #[(.map (some q28)),(.bool (b28))])) rfl) ?_
  refine l_v (Bk (vs:=#[(.map (some q28)),(.bool (b28))]) rfl (v:=(.map (some q28))) rfl) ?_
  refine l_v (Bk (vs:=#[(.map (some q28)),(.bool (b28))]) rfl (v:=(.bool (b28))) rfl) ?_
  refine l_v (Cp (v:=(.map (some q28))) rfl) ?_
  refine l_k k23 ?_
  refine Ag rfl rfl ?_
  refine l_v (Br h19_32 rfl (z:=(((i + 1):Nat):Int)) (Bo (by first | rfl | omega | (push_cast; rfl)) (by omega) (by omega))) ?_
  refine l_v (Ah (v:=(iV ((((i + 1):Nat):Int)))) rfl) ?_
  apply Ac
  refine ⟨_,?_,((i + 1)),(q28),rfl,rfl,(Asi l19 l28),rfl,h19_2,h19_4,h19_5,h19_7,h19_30,h19_31,rfl,rfl,(by omega),(by rw [show L1r d plan air (i + 1) = L0f d (L1r d plan air i) (plan.getD i 0) (air.getD i 0) from rfl,hpg]; exact r28),trivial⟩
  omega
 have q22:=of_decide_eq_false b22
 refine Bx ?_
 apply k15
 refine w_q rfl rfl fun K29 k29=>?_
 refine l_v (Cp (v:=(.bool (false))) rfl) ?_
 refine Ary rfl rfl k29 fun K30 K31 k30 k31=>?_
 refine l_v (Ah (v:=(.map (some r))) h19_8) ?_
 obtain ⟨eA32,cA32,lA32,hm32,hM32,hall32,ht32⟩:=id hFS
 refine Arv (L5m Tryz.underlying161 rfl (.inl hm32) fun k32=>?_)
 refine l_k k31 ?_
 refine Ao ?_
 refine Cc (fun mm ee dd ρ' σ'=>∃ (bb:Bool) (a:Int) (b:Int) (c:Int) (e:Int) (dn:List Ent),(lA32.length - dn.length) = mm∧[] = dd∧Ro.le ρ19 ρ'∧((k32,Res.obj (L0r r cA32 dn)) :: ((k4,oC #[(iV (c)),(iV (e))] 41) :: ((k3,oC #[(iV (a)),(iV (b))] 41) :: σ))) = σ'∧ee 2 = (.pointer (some ⟨k2,0,none⟩))∧ee 4 = (.pointer (some ⟨k3,0,none⟩))∧ee 5 = (.pointer (some ⟨k4,0,none⟩))∧ee 47 = (.pointer (some ⟨k32,0,none⟩))∧ee 11 = (.bool (bb))∧(bb = false→dn = [])∧(0 ≤ a∧a ≤ b∧b ≤ d.start.water)∧(-1000 ≤ c∧c ≤ 1000∧-1000 ≤ e∧e ≤ 1000)∧(∀ z ∈ dn,∀ s,z.1 = stK s→a ≤ d.start.water - s.water∧d.start.water - s.water ≤ b)∧(L3d lA32 dn)∧True) (m:=_) ⟨false,0,0,0,0,[],rfl,rfl,Ash,rfl,h19_2,h19_4,h19_5,rfl,rfl,(fun _=>rfl),(by omega),(by omega),(fun z h=>by (cases h)),L4d,trivial⟩ ?_
 rintro m33 e33 _ ρ33 _ ⟨bb,a,b,c,e,dn,rfl,rfl,l33,rfl,h33_2,h33_4,h33_5,h33_47,h33_11,p33_0,p33_1,p33_2,p33_3,p33_4,_⟩
 replace r2:=At.mono l33 r2
 replace hm32:=MapAt.mono l33 hm32
 have hqp33:=p33_1
 have hqc33:=p33_2
 refine w_q rfl rfl fun K34 k34=>?_
 refine Arv (L6r (i:=0) hM32 p33_4.1 h33_47 rfl (.inl hm32) (fun hend35=>?_) (fun z35 hz35 hn35=>?_))
 ·refine l_v (Bk (vs:=#[(.bool (false))]) rfl (v:=(.bool (false))) rfl) ?_
  refine Asa k34 fun K36 k36=>?_
  refine Cg rfl rfl ?_
  refine Bx ?_
  apply k30
  refine Ai fun K37 k37=>?_
  refine L1o (((k4,oC #[(iV (c)),(iV (e))] 41) :: [])) [1] (by kernel_rfl) rfl rfl ?_
  refine L0q (i:=1) [o0,o1,o0,o0,o0] rfl (by kernel_rfl) rfl ⟨Ash,(by repeat first | exact L0e | refine L0b ?_ | refine L0c ?_ | refine L0a ?_ | refine L0d ?_)⟩ rfl (L3q (cs:=[(iV (c)),(iV (e))]) (rs:=[]) ⟨_,Tryz.underlying41,rfl⟩ ⟨_,Ab Tryz.typeInfo41,rfl⟩ h33_5 (List.mem_cons_self ..) rfl rfl) ?_
  have r38:Val ρ33 (.agg #[(iV (c)),(iV (e))]) (⟨c,e⟩:Span):=Span.shut (x:=(⟨c,e⟩:Span)) (show I64 (c) from by constructor <;> omega) (show I64 (e) from by constructor <;> omega)
  refine L9b (i:=0) [o1,o1,o0,o0,o0] rfl (by kernel_rfl) rfl ⟨Ash,(by repeat first | exact L0e | refine L0b ?_ | refine L0c ?_ | refine L0a ?_ | refine L0d ?_)⟩ rfl (L3q (cs:=[(iV (a)),(iV (b))]) (rs:=[]) ⟨_,Tryz.underlying41,rfl⟩ ⟨_,Ab Tryz.typeInfo41,rfl⟩ h33_4 (List.mem_cons_of_mem _ (List.mem_cons_of_mem _ (List.mem_cons_self ..))) rfl rfl) ?_
  have r39:Val ρ33 (.agg #[(iV (a)),(iV (b))]) (⟨a,b⟩:Span):=Span.shut (x:=(⟨a,b⟩:Span)) (show I64 (a) from by constructor <;> omega) (show I64 (b) from by constructor <;> omega)
  refine L5x (i:=2) [o1,o1,o1,o0,o0] rfl (by kernel_rfl) rfl rfl (Li (i:=2) (vs:=[(iV (a)),(iV (b))]) (c':=[(iV (a)),(iV (b))]) ⟨_,Ab Tryz.typeInfo41,rfl⟩ h33_4 rfl rfl rfl (Zh ⟨rfl,rfl,trivial⟩) rfl (Nat.le_of_ble_eq_true rfl) rfl ⟨⟨Ash,(by repeat first | exact L0e | refine L0b ?_ | refine L0c ?_ | refine L0a ?_ | refine L0d ?_)⟩,?_⟩)
  refine L1t (i:=3) [o1,o1,o1,o1,o0] rfl (by kernel_rfl) (by kernel_rfl) rfl rfl (Li (i:=1) (vs:=[(iV (c)),(iV (e))]) (c':=[(iV (c)),(iV (e))]) ⟨_,Ab Tryz.typeInfo41,rfl⟩ h33_5 rfl rfl rfl (Zh ⟨rfl,rfl,trivial⟩) rfl (Nat.le_of_ble_eq_true rfl) rfl ?_)
  refine L0j (i:=4) [o1,o1,o1,o1,o1] rfl (by kernel_rfl) rfl ⟨Ash,(by repeat first | exact L0e | refine L0b ?_ | refine L0c ?_ | refine L0a ?_ | refine L0d ?_)⟩ rfl (Yld.o (Cp (v:=(iV (0))) rfl)) ⟨Ash,(by repeat first | exact L0e | refine L0b ?_ | refine L0c ?_ | refine L0a ?_ | refine L0d ?_)⟩ ?_
  refine L2r rfl ?_
  apply k37
  refine Aj Ghost.drop ?_
  refine Aj (Asf (Asi (Asi (Asi (Asi l2 l7) l17) l19) l33)) ?_
  refine Aq ?_
  have r40:Val ρ (.agg #[(iV (a)),(iV (b))]) (⟨a,b⟩:Span):=Span.shut (x:=(⟨a,b⟩:Span)) (show I64 (a) from by constructor <;> omega) (show I64 (b) from by constructor <;> omega)
  have r41:Val ρ (.agg #[(iV (c)),(iV (e))]) (⟨c,e⟩:Span):=Span.shut (x:=(⟨c,e⟩:Span)) (show I64 (c) from by constructor <;> omega) (show I64 (e) from by constructor <;> omega)
  refine hret _ _ _ _ _ [(.agg #[(iV (a)),(iV (b))]),(.agg #[(iV (c)),(iV (e))]),(iV (0))] ⟨(Qh ⟨_,Tryz.underlying41,rfl⟩ ⟨_,Ab Tryz.typeInfo41,rfl⟩ h33_4 (i:=1) rfl rfl),(Qh ⟨_,Tryz.underlying41,rfl⟩ ⟨_,Ab Tryz.typeInfo41,rfl⟩ h33_5 (i:=0) rfl rfl),rfl,trivial⟩ (Ghost.drop.trans Ghost.drop) ?_
  obtain ⟨z,hz,e⟩:=ht32
  have hw:=p33_3 z (hend35 z hz) _ e
  have hie:i = plan.length:=by omega
  subst hie
  exact ⟨rfl,rfl,_,_,_,_,_,_,rfl,r40,r41,by omega,by omega,hw.1,hw.2⟩
 obtain ⟨s35,hs35,ho35⟩:=hall32 _ hz35
 have r35:=L6k (ρ:=ρ33) ok hs35 ho35
 obtain ⟨⟨hx35a,hx35b⟩,⟨hx35c,hx35d⟩,_⟩:=id ho35
 refine l_v (Bk (vs:=#[(.bool (true)),(L1h z35.1),z35.2.1]) rfl (v:=(.bool (true))) rfl) ?_
 refine Asa k34 fun K42 k42=>?_
 refine Co rfl rfl ?_
 refine Al ?_
 apply k42
 refine Ao ?_
 refine w_q rfl rfl fun K43 k43=>?_
 refine Arv (L5l (i:=0) hM32 hz35 h33_47 rfl (.inl hm32) ?_)
 refine l_v (Bk (vs:=#[(L1h z35.1),z35.2.1]) rfl (v:=(L1h z35.1)) rfl) ?_
 refine Arv (Ct L2x fun k44=>?_)
 refine Cx rfl (Dv (v:=(L1h z35.1)) (a:=s35) (c:=L6b) L0o rfl rfl r35 rfl ?_)
 refine Bb (a:=s35) r35 fun ρ45 l45 r45=>?_
 replace r2:=At.mono l45 r2
 refine Asa k43 fun K46 k46=>?_
 refine Dc [0,1,2,3,4,5,6,7,8,9,10,11,12,13] (by kernel_rfl) rfl rfl ?_
 refine Cd (i:=0) [o1,o0,o0,o0,o0,o0,o0,o0,o0,o0,o0,o0,o0,o0] rfl (by kernel_rfl) rfl Ash rfl (Ay Drying.f_start Tryz.underlying59 rfl rfl L0o (by decide) h33_2 r2) fun v47 r47=>?_
 refine Cd (i:=1) [o1,o1,o0,o0,o0,o0,o0,o0,o0,o0,o0,o0,o0,o0] rfl (by kernel_rfl) rfl Ash rfl (Ay DryState.f_water Tryz.underlying56 rfl rfl ty3 (by decide) rfl r47) fun v48 r48=>?_
 have ⟨g49a,g49b⟩:=At.rng r48
 refine Bd (i:=2) [o1,o1,o1,o0,o0,o0,o0,o0,o0,o0,o0,o0,o0,o0] rfl (by kernel_rfl) rfl Ash rfl (Bc ty3 rfl r48) ?_
 refine Cd (i:=3) [o1,o1,o1,o1,o0,o0,o0,o0,o0,o0,o0,o0,o0,o0] rfl (by kernel_rfl) rfl Ash rfl (Ay DryState.f_water Tryz.underlying56 rfl rfl ty3 (by decide) rfl r45) fun v50 r50=>?_
 have ⟨g51a,g51b⟩:=At.rng r50
 refine Bd (i:=4) [o1,o1,o1,o1,o1,o0,o0,o0,o0,o0,o0,o0,o0,o0] rfl (by kernel_rfl) rfl Ash rfl (Bc ty3 rfl r50) ?_
 refine Bd (i:=5) [o1,o1,o1,o1,o1,o1,o0,o0,o0,o0,o0,o0,o0,o0] rfl (by kernel_rfl) rfl Ash rfl (Ou rfl rfl (z:=(d.start.water - s35.water)) (Bo (by rfl) (by omega) (by omega))) ?_
 refine Cd (i:=6) [o1,o1,o1,o1,o1,o1,o1,o0,o0,o0,o0,o0,o0,o0] rfl (by kernel_rfl) rfl Ash rfl (Ay Drying.f_start Tryz.underlying59 rfl rfl L0o (by decide) h33_2 r2) fun v52 r52=>?_
 refine Cd (i:=7) [o1,o1,o1,o1,o1,o1,o1,o1,o0,o0,o0,o0,o0,o0] rfl (by kernel_rfl) rfl Ash rfl (Ay DryState.f_colour Tryz.underlying56 rfl rfl ty3 (by decide) rfl r52) fun v53 r53=>?_
 have ⟨g54a,g54b⟩:=At.rng r53
 refine Bd (i:=8) [o1,o1,o1,o1,o1,o1,o1,o1,o1,o0,o0,o0,o0,o0] rfl (by kernel_rfl) rfl Ash rfl (Bc ty3 rfl r53) ?_
 refine Cd (i:=9) [o1,o1,o1,o1,o1,o1,o1,o1,o1,o1,o0,o0,o0,o0] rfl (by kernel_rfl) rfl Ash rfl (Ay DryState.f_colour Tryz.underlying56 rfl rfl ty3 (by decide) rfl r45) fun v55 r55=>?_
 have ⟨g56a,g56b⟩:=At.rng r55
 refine Bd (i:=10) [o1,o1,o1,o1,o1,o1,o1,o1,o1,o1,o1,o0,o0,o0] rfl (by kernel_rfl) rfl Ash rfl (Bc ty3 rfl r55) ?_
 refine Bd (i:=11) [o1,o1,o1,o1,o1,o1,o1,o1,o1,o1,o1,o1,o0,o0] rfl (by kernel_rfl) rfl Ash rfl (Ou rfl rfl (z:=(d.start.colour - s35.colour)) (Bo (by rfl) (by omega) (by omega))) ?_
 refine Bg (i:=12) [o1,o1,o1,o1,o1,o1,o1,o1,o1,o1,o1,o1,o1,o0] rfl (by kernel_rfl) rfl Ash rfl (Cp (v:=(iV ((d.start.water - s35.water)))) rfl) ?_
 refine Bg (i:=13) [o1,o1,o1,o1,o1,o1,o1,o1,o1,o1,o1,o1,o1,o1] rfl (by kernel_rfl) rfl Ash rfl (Cp (v:=(iV ((d.start.colour - s35.colour)))) rfl) ?_
 refine Ec rfl ?_
 apply k46
 refine Ai fun K57 k57=>?_
 have kj57:∀ (ja:Int) (jb:Int) (jc:Int) (je:Int) (ee:Env),(ee 2 = (.pointer (some ⟨k2,0,none⟩)))∧(ee 4 = (.pointer (some ⟨k3,0,none⟩)))∧(ee 5 = (.pointer (some ⟨k4,0,none⟩)))∧(ee 13 = (iV ((d.start.water - s35.water))))∧(ee 14 = (iV ((d.start.colour - s35.colour))))∧(ee 47 = (.pointer (some ⟨k32,0,none⟩)))∧(ee 11 = (.bool (true)))∧(0 ≤ ja∧ja ≤ jb∧jb ≤ d.start.water)∧(-1000 ≤ jc∧jc ≤ 1000∧-1000 ≤ je∧je ≤ 1000)∧(∀ z ∈ dn,∀ s,z.1 = stK s→ja ≤ d.start.water - s.water∧d.start.water - s.water ≤ jb)∧True→K57 ee ([]) ρ45 (((k32,Res.obj (L0r r cA32 ((dn ++ [z35])))) :: ((k4,oC #[(iV (jc)),(iV (je))] 41) :: ((k3,oC #[(iV (ja)),(iV (jb))] 41) :: σ)))):=by
  rintro ja jb jc je e57 ⟨h57_2,h57_4,h57_5,h57_13,h57_14,h57_47,h57_11,p57_0,p57_1,p57_2,_⟩
  have hjp57:=p57_0
  have hjc57:=p57_1
  apply k57
  refine w_q rfl rfl fun K58 k58=>?_
  refine l_v (Cb Tryz.underlying41 rfl rfl ⟨_,Ab Tryz.typeInfo3,rfl⟩ (by decide) h57_4 rfl) ?_
  refine Arv (Dt (i:=2) (v:=(iV (ja))) ⟨_,Tryz.underlying3,rfl⟩ rfl rfl rfl ?_)
  refine l_v (Ah (v:=(iV ((d.start.water - s35.water)))) h57_13) ?_
  refine l_v (Ajx (p:=ja) (q:=(d.start.water - s35.water)) rfl rfl) ?_
  refine l_v (Cb Tryz.underlying41 rfl rfl ⟨_,Ab Tryz.typeInfo3,rfl⟩ (by decide) h57_4 rfl) ?_
  refine Arv (Dt (i:=2) (v:=(iV (jb))) ⟨_,Tryz.underlying3,rfl⟩ rfl rfl rfl ?_)
  refine l_v (Ah (v:=(iV ((d.start.water - s35.water)))) h57_13) ?_
  refine l_v (Aqf (p:=jb) (q:=(d.start.water - s35.water)) rfl rfl) ?_
  have r59:Val ρ45 (.agg #[(iV ((min ja ((d.start.water - s35.water))))),(iV ((max jb ((d.start.water - s35.water)))))]) (⟨(min ja ((d.start.water - s35.water))),(max jb ((d.start.water - s35.water)))⟩:Span):=Span.shut (x:=(⟨(min ja ((d.start.water - s35.water))),(max jb ((d.start.water - s35.water)))⟩:Span)) (show I64 ((min ja ((d.start.water - s35.water)))) from by constructor <;> omega) (show I64 ((max jb ((d.start.water - s35.water)))) from by constructor <;> omega)
  refine l_v (Dn (ns:=[1,1]) (vs:=[(0,(iV ((min ja ((d.start.water - s35.water)))))),(1,(iV ((max jb ((d.start.water - s35.water))))))]) (zc:=Arm) (cs:=[(iV ((min ja ((d.start.water - s35.water))))),(iV ((max jb ((d.start.water - s35.water)))))]) Tryz.underlying41 Aak rfl ⟨⟨_,Ab Tryz.typeInfo3,rfl⟩,⟨_,Ab Tryz.typeInfo3,rfl⟩,trivial⟩ (EvB.map ⟨⟨rfl,rfl⟩,⟨rfl,rfl⟩,trivial⟩) ((Be (cs:=[(iV ((min ja ((d.start.water - s35.water)))))]) rfl rfl (Nat.le_of_ble_eq_true rfl)).trans ((Be (cs:=[(iV ((max jb ((d.start.water - s35.water)))))]) rfl rfl (Nat.le_of_ble_eq_true rfl)).trans rfl))) ?_
  refine Cx rfl (Li (i:=2) (vs:=[(iV ((min ja ((d.start.water - s35.water))))),(iV ((max jb ((d.start.water - s35.water)))))]) (c':=[(iV ((min ja ((d.start.water - s35.water))))),(iV ((max jb ((d.start.water - s35.water)))))]) ⟨_,Ab Tryz.typeInfo41,rfl⟩ h57_4 rfl rfl rfl (Zh ⟨rfl,rfl,trivial⟩) rfl (Nat.le_of_ble_eq_true rfl) rfl ?_)
  refine l_k k58 ?_
  refine Ag rfl rfl ?_
  refine l_v (Cb Tryz.underlying41 rfl rfl ⟨_,Ab Tryz.typeInfo3,rfl⟩ (by decide) h57_5 rfl) ?_
  refine Arv (Dt (i:=1) (v:=(iV (jc))) ⟨_,Tryz.underlying3,rfl⟩ rfl rfl rfl ?_)
  refine l_v (Ah (v:=(iV ((d.start.colour - s35.colour)))) h57_14) ?_
  refine l_v (Ajx (p:=jc) (q:=(d.start.colour - s35.colour)) rfl rfl) ?_
  refine l_v (Cb Tryz.underlying41 rfl rfl ⟨_,Ab Tryz.typeInfo3,rfl⟩ (by decide) h57_5 rfl) ?_
  refine Arv (Dt (i:=1) (v:=(iV (je))) ⟨_,Tryz.underlying3,rfl⟩ rfl rfl rfl ?_)
  refine l_v (Ah (v:=(iV ((d.start.colour - s35.colour)))) h57_14) ?_
  refine l_v (Aqf (p:=je) (q:=(d.start.colour - s35.colour)) rfl rfl) ?_
  have r60:Val ρ45 (.agg #[(iV ((min jc ((d.start.colour - s35.colour))))),(iV ((max je ((d.start.colour - s35.colour)))))]) (⟨(min jc ((d.start.colour - s35.colour))),(max je ((d.start.colour - s35.colour)))⟩:Span):=Span.shut (x:=(⟨(min jc ((d.start.colour - s35.colour))),(max je ((d.start.colour - s35.colour)))⟩:Span)) (show I64 ((min jc ((d.start.colour - s35.colour)))) from by constructor <;> omega) (show I64 ((max je ((d.start.colour - s35.colour)))) from by constructor <;> omega)
  refine l_v (Dn (ns:=[1,1]) (vs:=[(0,(iV ((min jc ((d.start.colour - s35.colour)))))),(1,(iV ((max je ((d.start.colour - s35.colour))))))]) (zc:=Arm) (cs:=[(iV ((min jc ((d.start.colour - s35.colour))))),(iV ((max je ((d.start.colour - s35.colour)))))]) Tryz.underlying41 Aak rfl ⟨⟨_,Ab Tryz.typeInfo3,rfl⟩,⟨_,Ab Tryz.typeInfo3,rfl⟩,trivial⟩ (EvB.map ⟨⟨rfl,rfl⟩,⟨rfl,rfl⟩,trivial⟩) ((Be (cs:=[(iV ((min jc ((d.start.colour - s35.colour)))))]) rfl rfl (Nat.le_of_ble_eq_true rfl)).trans ((Be (cs:=[(iV ((max je ((d.start.colour - s35.colour)))))]) rfl rfl (Nat.le_of_ble_eq_true rfl)).trans rfl))) ?_
  refine Cx rfl (Li (i:=1) (vs:=[(iV ((min jc ((d.start.colour - s35.colour))))),(iV ((max je ((d.start.colour - s35.colour)))))]) (c':=[(iV ((min jc ((d.start.colour - s35.colour))))),(iV ((max je ((d.start.colour - s35.colour)))))]) ⟨_,Ab Tryz.typeInfo41,rfl⟩ h57_5 rfl rfl rfl (Zh ⟨rfl,rfl,trivial⟩) rfl (Nat.le_of_ble_eq_true rfl) rfl ?_)
  apply Ac
  refine ⟨_,?_,(true),((min ja ((d.start.water - s35.water)))),((max jb ((d.start.water - s35.water)))),((min jc ((d.start.colour - s35.colour)))),((max je ((d.start.colour - s35.colour)))),((dn ++ [z35])),rfl,rfl,(Asi l33 l45),rfl,h57_2,h57_4,h57_5,h57_47,h57_11,(fun h=>by cases h),(by omega),(by omega),(fun z h s e=>by rcases List.mem_append.1 h with h | h; exact (by (have:=p57_2 z h s e; omega)); (rw [List.mem_singleton.1 h] at e; obtain rfl:=L6q (hs35.symm.trans e); omega)),(L2f hM32 p33_4 hz35 hn35),trivial⟩
  have hdl:=L4c hM32 (L2f hM32 p33_4 hz35 hn35)
  simp only [List.length_append,List.length_cons,List.length_nil] at *; omega
 refine w_q rfl rfl fun K61 k61=>?_
 refine l_v (Ah (v:=(.bool (bb))) h33_11) ?_
 refine l_v (Iy rfl) ?_
 refine l_k k61 ?_
 refine As (t:=!(bb)) rfl (fun b62=>?_) (fun b62=>?_)
 ·have b63:=not_eq_t b62
  refine Ag rfl rfl ?_
  refine l_v (Ah (v:=(iV ((d.start.water - s35.water)))) rfl) ?_
  refine l_v (Ah (v:=(iV ((d.start.water - s35.water)))) rfl) ?_
  have r64:Val ρ45 (.agg #[(iV ((d.start.water - s35.water))),(iV ((d.start.water - s35.water)))]) (⟨(d.start.water - s35.water),(d.start.water - s35.water)⟩:Span):=Span.shut (x:=(⟨(d.start.water - s35.water),(d.start.water - s35.water)⟩:Span)) (show I64 ((d.start.water - s35.water)) from by constructor <;> omega) (show I64 ((d.start.water - s35.water)) from by constructor <;> omega)
  refine l_v (Dn (ns:=[1,1]) (vs:=[(0,(iV ((d.start.water - s35.water)))),(1,(iV ((d.start.water - s35.water))))]) (zc:=Arm) (cs:=[(iV ((d.start.water - s35.water))),(iV ((d.start.water - s35.water)))]) Tryz.underlying41 Aak rfl ⟨⟨_,Ab Tryz.typeInfo3,rfl⟩,⟨_,Ab Tryz.typeInfo3,rfl⟩,trivial⟩ (EvB.map ⟨⟨rfl,rfl⟩,⟨rfl,rfl⟩,trivial⟩) ((Be (cs:=[(iV ((d.start.water - s35.water)))]) rfl rfl (Nat.le_of_ble_eq_true rfl)).trans ((Be (cs:=[(iV ((d.start.water - s35.water)))]) rfl rfl (Nat.le_of_ble_eq_true rfl)).trans rfl))) ?_
  refine l_v (Ah (v:=(iV ((d.start.colour - s35.colour)))) rfl) ?_
  refine l_v (Ah (v:=(iV ((d.start.colour - s35.colour)))) rfl) ?_
  have r65:Val ρ45 (.agg #[(iV ((d.start.colour - s35.colour))),(iV ((d.start.colour - s35.colour)))]) (⟨(d.start.colour - s35.colour),(d.start.colour - s35.colour)⟩:Span):=Span.shut (x:=(⟨(d.start.colour - s35.colour),(d.start.colour - s35.colour)⟩:Span)) (show I64 ((d.start.colour - s35.colour)) from by constructor <;> omega) (show I64 ((d.start.colour - s35.colour)) from by constructor <;> omega)
  refine l_v (Dn (ns:=[1,1]) (vs:=[(0,(iV ((d.start.colour - s35.colour)))),(1,(iV ((d.start.colour - s35.colour))))]) (zc:=Arm) (cs:=[(iV ((d.start.colour - s35.colour))),(iV ((d.start.colour - s35.colour)))]) Tryz.underlying41 Aak rfl ⟨⟨_,Ab Tryz.typeInfo3,rfl⟩,⟨_,Ab Tryz.typeInfo3,rfl⟩,trivial⟩ (EvB.map ⟨⟨rfl,rfl⟩,⟨rfl,rfl⟩,trivial⟩) ((Be (cs:=[(iV ((d.start.colour - s35.colour)))]) rfl rfl (Nat.le_of_ble_eq_true rfl)).trans ((Be (cs:=[(iV ((d.start.colour - s35.colour)))]) rfl rfl (Nat.le_of_ble_eq_true rfl)).trans rfl))) ?_
  refine Cx rfl (Li (i:=2) (vs:=[(iV ((d.start.water - s35.water))),(iV ((d.start.water - s35.water)))]) (c':=[(iV ((d.start.water - s35.water))),(iV ((d.start.water - s35.water)))]) ⟨_,Ab Tryz.typeInfo41,rfl⟩ h33_4 rfl rfl rfl (Zh ⟨rfl,rfl,trivial⟩) rfl (Nat.le_of_ble_eq_true rfl) rfl ?_)
  refine Cx rfl (Li (i:=1) (vs:=[(iV ((d.start.colour - s35.colour))),(iV ((d.start.colour - s35.colour)))]) (c':=[(iV ((d.start.colour - s35.colour))),(iV ((d.start.colour - s35.colour)))]) ⟨_,Ab Tryz.typeInfo41,rfl⟩ h33_5 rfl rfl rfl (Zh ⟨rfl,rfl,trivial⟩) rfl (Nat.le_of_ble_eq_true rfl) rfl ?_)
  refine l_v (Cp (v:=(.bool (true))) rfl) ?_
  apply Ac
  refine kj57 ((d.start.water - s35.water)) ((d.start.water - s35.water)) ((d.start.colour - s35.colour)) ((d.start.colour - s35.colour)) _ ?_
  exact ⟨h33_2,h33_4,h33_5,rfl,rfl,h33_47,rfl,(by omega),(by omega),(fun z h=>by rw [p33_0 (by first | simpa using b63 | simpa using b62 | simpa using b22)] at h; cases h),trivial⟩
 have b66:=not_eq_f b62
 refine Al ?_
 refine kj57 (a) (b) (c) (e) _ ?_
 exact ⟨h33_2,h33_4,h33_5,rfl,rfl,h33_47,(h33_11.trans ((by rw [show bb = true from (by first | simpa using b66 | simpa using b62 | simpa using b22)]))),(by omega),(by omega),p33_3,trivial⟩
end Go.Proofs.YtphgjjmlnkgghaaGreatDoor

namespace Go.Proofs.YtphgjjmlnkgghaaGreatDoor
open Go
/-- One house with one field,and sales of that house. -/
def L1a (sales:List Int):List Sale:=sales.map fun g=>(⟨g,[0]⟩:Sale)
def L0h (x:Span) (sales:List Int):Market:=⟨[(ByteArray.mk #[97,108,108])],[],[⟨(ByteArray.mk #[102,105,101,108,100]),0,x,[]⟩],L1a sales⟩
theorem L1w {x:Span} {sales:List Int} (hx:0 ≤ x.low∧x.low ≤ x.high∧x.high ≤ 1000000) (hn:sales.length ≤ 8) (hs:∀ g ∈ sales,0 ≤ g∧g ≤ 1000000):Cf (L0h x sales) = 0:=by
  have h1:Dd [(ByteArray.mk #[97,108,108])] 5 = 0:=by decide
  have h2:Dd [] 4 = 0:=by decide
  have h3:fieldAt (L0h x sales) 0 = 0:=by
    have hn:Hg (ByteArray.mk #[102,105,101,108,100]) = true:=by decide
    have hi:Ef x 0 1000000 = true:=Re.2 hx
    have hf:(Cl 0 (Mk (L0h x sales) (ByteArray.mk #[102,105,101,108,100]))).isSome = false:=Fs.2 fun j hj=>absurd hj (Nat.not_lt_zero _)
    have hr:inR 0 0 (((L0h x sales).houses.length:Int) - 1) = true:=rfl
    have hsp:Fm [] (((L0h x sales).marks.length:Nat):Int) = 0:=rfl
    show (if Hg (ByteArray.mk #[102,105,101,108,100]) then (if (Cl 0 (Mk (L0h x sales) (ByteArray.mk #[102,105,101,108,100]))).isSome then 5 else if inR 0 0 (((L0h x sales).houses.length:Int) - 1) then (if Ef x 0 1000000 then Fm [] (((L0h x sales).marks.length:Nat):Int) else 1) else 6) else 4) = (0:Int)
    rw [hn,hf,hr,hi,hsp]; rfl
  have h4:Ew (L0h x sales) = 0:=by
    unfold Ew
    rw [if_neg (show ¬ (((L0h x sales).fields.length:Nat):Int) > 6 from by show ¬ ((1:Nat):Int) > 6; omega),Fx]
    intro i hi
    have:i = 0:=by have:(L0h x sales).fields.length = 1:=rfl; omega
    rw [this]; exact h3
  have h5:Jc (L0h x sales) = 0:=by
    unfold Jc
    have hl:(L0h x sales).sales.length = sales.length:=by show (L1a sales).length = _; simp [L1a]
    rw [if_neg (by omega),Fx]
    intro i hi
    obtain ⟨g,hg⟩:∃ g,sales[i]? = some g:=⟨sales[i]'(by omega),List.getElem?_eq_getElem _⟩
    have hsl:(L0h x sales).sales[i]? = some ⟨g,[0]⟩:=by show (L1a sales)[i]? = _; unfold L1a; rw [List.getElem?_map,hg]; rfl
    simp only [Jb,hsl]
    rw [if_pos (Fz.2 (hs g (List.mem_of_getElem? hg))),if_neg (by simp),Fx]
    intro k hk
    have:k = 0:=by simp only [List.length_cons,List.length_nil] at hk; omega
    subst this
    have hr:inR 0 0 (((L0h x sales).houses.length:Int) - 1) = true:=rfl
    show (if inR 0 0 (((L0h x sales).houses.length:Int) - 1) then (match (if 0 < 0 then ([0]:List Int)[0 - 1]? else none) with | some h'=>if (0:Int) ≤ h' then 7 else 0 | none=>0) else 6) = (0:Int)
    rw [hr]; rfl
  unfold Cf
  show orF (Dd [(ByteArray.mk #[97,108,108])] 5) (orF (Dd [] 4) _) = 0
  rw [h1,h2,h4,h5]; rfl
theorem L5k {x:Span} {sales:List Int}:Em (L0h x sales) 0 = x.high:=by
  show ([Es 0 (⟨_,0,x,[]⟩:FField)]).sum = x.high
  simp [Es]
theorem L3o {x:Span} {g:Int}:Ue (L0h x [g]) [⟨g,[0]⟩] = g - x.high:=by
  unfold Ue
  have h:Df 5 (fun h=>if ([⟨g,[0]⟩]:List Sale).any (Gn · h) then Em (L0h x [g]) h else 0) = Em (L0h x [g]) 0:=by
    simp [Df,Gn]
  rw [h,L5k]; simp
/-- What is sold beyond the greatest that was grown is the excess. -/
theorem L4e {x:Span} {g:Int} (hx:0 ≤ x.low∧x.low ≤ x.high∧x.high ≤ 1000000) (hg:0 ≤ g∧g ≤ 1000000):Ahr (L0h x [g]) = max 0 (g - x.high):=by
  have hm:=L1w (x:=x) (sales:=[g]) hx (by simp) (fun y hy=>by rw [List.mem_singleton.1 hy]; exact hg)
  unfold Ahr
  rw [if_pos hm]
  have h0:=L2g (Rg hm)
  have h1:=L5u (m:=L0h x [g]) (ss:=[⟨g,[0]⟩]) (List.Sublist.refl _)
  rw [L3o] at h1
  obtain ⟨ss,h2,h3⟩:=L7s (m:=L0h x [g])
  have h4:ss = []∨ss = [⟨g,[0]⟩]:=by
    have:ss.Sublist [⟨g,[0]⟩]:=h2
    rcases List.sublist_cons_iff.1 this with h | ⟨r,rfl,h⟩
    · left; exact List.sublist_nil.1 h
    · right; rw [List.sublist_nil.1 h]
  rcases h4 with rfl | rfl
  · have:Ue (L0h x [g]) [] = 0:=by unfold Ue; simp [Df]
    omega
  · rw [L3o] at h3; omega
end Go.Proofs.YtphgjjmlnkgghaaGreatDoor

namespace Go.Proofs.YtphgjjmlnkgghaaGreatDoor
set_option maxHeartbeats 1000000
open Go
set_option maxHeartbeats 2000000 in
set_option maxRecDepth 100000 in
theorem L7g {mn:Bool} {X:Frame→List Frame→Ro→Own→Cy→Prop} {ρ:Ro} {σ:Own} {d:Drying} {vd:Value} {plan air:List Int} {vp va:Value} (rd:Val ρ vd d) (rp:Val ρ vp plan) (ra:Val ρ va air) (hd:L0v d = 0) (hp:L1k d plan = 0) (ha:AirOk d air):CallsH (CX mn X) 20 #[vd,vp,va] ρ σ (fun w ρ' σ'=>Ro.le ρ ρ'∧σ' = σ∧∃ v0,w = (.tuple #[v0,(iV (0))])∧Val ρ' v0 (L1i d plan air d.steps.length:List DryState)):=by
 have ok:=L3i hd
 have hn5:=ok.n5
 have hst:=ok.start
 obtain ⟨hpl,hpi⟩:=L1z hp
 have hal:=ha.len
 have hsl:=L0x (d:=d)
 refine Bh (n:=69) (args:=[vd,vp,va]) [6,7] Tryz.func20 rfl rfl rfl rfl fun Q hret hnor=>?_
 refine w_q rfl rfl fun K1 k1=>?_
 refine Arv (Eb (v:=vd) rfl fun k2=>?_)
 refine Bb (a:=d) rd fun ρ2 l2 r2=>?_
 replace rp:=Asj l2 rp
 replace ra:=Asj l2 ra
 refine l_v (Cp (v:=(.slice none 0 0)) rfl) ?_
 refine l_v (Cp (v:=(iV (0))) rfl) ?_
 refine Arx rfl rfl k1 fun K3 k3=>?_
 refine Arw (Ax L0t rfl r2) fun v4 r4=>?_
 refine l_v (Ah (v:=vp) rfl) ?_
 refine Arv (Cm (vs:=[v4,vp]) (L3w r4 rp hd hp) Tryz.func60 rfl rfl ⟨rfl,rfl,trivial⟩ fun w5 ρ5 σ5 hc5=>?_)
 obtain ⟨l5,s5,v5,hw5,r5⟩:=hc5
 replace s5:=s5.symm; subst s5 hw5
 replace rp:=Asj l5 rp
 replace ra:=Asj l5 ra
 replace r2:=At.mono l5 r2
 refine l_v (Ah (v:=(.tuple #[v5,(iV (0))])) rfl) ?_
 refine l_v (Bk (vs:=#[v5,(iV (0))]) rfl (v:=v5) rfl) ?_
 refine l_v (Bk (vs:=#[v5,(iV (0))]) rfl (v:=(iV (0))) rfl) ?_
 refine l_v (Cp (v:=v5) rfl) ?_
 refine l_v (Cp (v:=(iV (0))) rfl) ?_
 refine Asa k3 fun K6 k6=>?_
 refine Ao ?_
 refine w_q rfl rfl fun K7 k7=>?_
 refine l_v (Ah (v:=(iV (0))) rfl) ?_
 refine l_v (Dg rfl rfl) ?_
 refine l_v (Cp (v:=(.bool (false))) rfl) ?_
 refine l_k k7 ?_
 refine Cg rfl rfl ?_
 refine w_q rfl rfl fun K8 k8=>?_
 refine l_v (Ah (v:=va) rfl) ?_
 have g9:=Val.len ra
 refine l_v (Ci (el:=3) Tryz.underlying49 rfl ra) ?_
 refine l_v (Ah (v:=vp) rfl) ?_
 have g10:=Val.len rp
 refine l_v (Ci (el:=3) Tryz.underlying49 rfl rp) ?_
 refine l_v (Dg rfl rfl) ?_
 refine l_v (Cp (v:=(.bool (((air.length:Nat):Int) != ((plan.length:Nat):Int)))) rfl) ?_
 refine l_k k8 ?_
 refine As (t:=((air.length:Nat):Int) != ((plan.length:Nat):Int)) rfl (fun b11=>?_) (fun b11=>?_)
 ·have q11:=Ls b11
  refine w_q rfl rfl fun K12 k12=>?_
  refine l_v (Cp (v:=(.slice none 0 0)) rfl) ?_
  refine l_v (Cp (v:=(iV (2))) rfl) ?_
  refine l_k k12 ?_
  refine Aq ?_
  refine hret _ _ _ ?_
  refine ⟨(Asi l2 l5),rfl,(.slice none 0 0),Eq.trans (b:=(.tuple #[(.slice none 0 0),(iV (2))])) (Mp (r:=6) (r':=7) (rs:=[]) (v:=(.slice none 0 0)) (v':=(iV (2))) (vs:=[]) ⟨rfl,rfl,trivial⟩) ?_,Val.cast ?_ Gx⟩
  ·exfalso; omega
  ·exfalso; omega
 have q11:=Jh b11
 refine Al ?_
 apply k6
 refine w_q rfl rfl fun K13 k13=>?_
 refine Arw (Ay Drying.f_start Tryz.underlying59 rfl rfl L0o (by decide) rfl r2) fun v14 r14=>?_
 refine Arw (Ax L0o rfl r14) fun v15 r15=>?_
 refine Arv (Ct L2x fun k16=>?_)
 obtain ⟨e17_,⟨i17_1a,i17_1b⟩,⟨i17_2a,i17_2b⟩,⟨i17_3a,i17_3b⟩⟩:=DryState.open_ r15
 have e17_c:v15.cells = [(iV (d.start.water)),(iV (d.start.colour)),(iV (d.start.heat))].toArray:=by rw [e17_]; rfl
 refine Cx rfl (Li (i:=0) (vs:=[(iV (d.start.water)),(iV (d.start.colour)),(iV (d.start.heat))]) (c':=[(iV (d.start.water)),(iV (d.start.colour)),(iV (d.start.heat))]) ⟨_,Ab Tryz.typeInfo56,rfl⟩ rfl rfl e17_c rfl (Zh ⟨rfl,rfl,rfl,trivial⟩) rfl (Nat.le_of_ble_eq_true rfl) rfl ?_)
 refine Ary rfl rfl k13 fun K18 K19 k18 k19=>?_
 refine l_v (Ah (v:=va) rfl) ?_
 have g20:=Val.len ra
 refine l_v (Ci (el:=3) Tryz.underlying49 rfl ra) ?_
 refine l_v (Ah (v:=(iV (0))) rfl) ?_
 refine l_k k19 ?_
 refine Ao ?_
 refine Cc (fun mm ee dd ρ' σ'=>∃ (i:Nat) (s:DryState) (ov21_6:Value) (og21_6:Own),(air.length - i) = mm∧[] = dd∧Ro.le ρ5 ρ'∧(og21_6 ++ ((k16,oC #[(iV (s.water)),(iV (s.colour)),(iV (s.heat))] 56) :: σ)) = σ'∧ee 1 = vp∧ee 8 = v5∧ee 9 = (.pointer (some ⟨k16,0,none⟩))∧ee 31 = va∧ee 32 = (iV (((air.length:Nat):Int)))∧ee 6 = ov21_6∧ee 33 = (iV ((i:Int)))∧(i ≤ air.length)∧(s = L1r d plan air i)∧Grow ρ' 56 ov21_6 (L1i d plan air i) og21_6∧True) (m:=_) ⟨0,d.start,(.slice none 0 0),[],rfl,rfl,Ash,rfl,rfl,rfl,rfl,rfl,rfl,rfl,rfl,(Nat.zero_le _),rfl,Hm,trivial⟩ ?_
 rintro m21 e21 _ ρ21 _ ⟨i,s,ov21_6,og21_6,rfl,rfl,l21,rfl,h21_1,h21_8,h21_9,h21_31,h21_32,h21_6,h21_33,p21_0,p21_1,OG21_6,_⟩
 replace rp:=Asj l21 rp
 replace ra:=Asj l21 ra
 replace r5:=At.mono l21 r5
 have hso:L2t d s:=by rw [p21_1]; exact L6p ok hp ha i (by omega)
 obtain ⟨⟨hsa,hsb⟩,⟨hsc,hsd⟩,hse,hsf⟩:=id hso
 have hn4:=ok.n4
 refine w_q rfl rfl fun K22 k22=>?_
 refine l_v (Da h21_33 h21_32) ?_
 refine Asa k22 fun K23 k23=>?_
 refine As (t:=decide ((i:Int) < ((air.length:Nat):Int))) rfl (fun b24=>?_) (fun b24=>?_)
 ·have q24:=of_decide_eq_true b24
  refine Al ?_
  apply k23
  refine Ai fun K25 k25=>?_
  refine Ao ?_
  refine w_q rfl rfl fun K26 k26=>?_
  refine l_v (Ah (v:=(iV ((i:Int)))) h21_33) ?_
  obtain ⟨a28,ha28⟩:=Ed (xs:=air) (i:=i) (by omega)
  have hag:air.getD i 0 = a28:=by rw [List.getD_eq_getElem?_getD,ha28]; rfl
  have hai:=ha.at_ i (by omega)
  rw [hag] at hai
  have hdi:=L6j ok (show i < d.steps.length by omega)
  refine Arw (Ch i Tryz.underlying49 ty3 h21_31 ra (q:=(i:Int)) h21_33 rfl ha28) fun v27 r27=>?_
  have ⟨g29a,g29b⟩:=At.rng r27
  refine l_v (Bc ty3 rfl r27) ?_
  refine l_v (Cp (v:=(iV ((i:Int)))) rfl) ?_
  refine l_v (Cp (v:=(iV (a28))) rfl) ?_
  refine Ary rfl rfl k26 fun K30 K31 k30 k31=>?_
  refine l_v (Ah (v:=v5) h21_8) ?_
  refine l_v (Hj rfl r5) ?_
  refine Arw (Ay Stove.f_stages Tryz.underlying170 rfl rfl L2d (by decide) rfl r5) fun v32 r32=>?_
  refine Arw (Ax L2d rfl r32) fun v33 r33=>?_
  refine l_v (Ah (v:=(iV ((i:Int)))) rfl) ?_
  obtain ⟨a35,ha35⟩:=Ed (xs:=(L1b d).stages) (i:=i) (by omega)
  obtain ⟨y_a35,hy_a35,he_a35⟩:=L3n ha35
  subst he_a35
  have hdg:L1g d i = y_a35.damp:=by unfold L1g; rw [hy_a35]
  rw [hdg] at hai hdi
  refine Arw (Ch i Tryz.underlying168 L2k rfl r33 (q:=(i:Int)) rfl rfl ha35) fun v34 r34=>?_
  refine Arw (Ay Stage.f_window Tryz.underlying167 rfl rfl L2w (by decide) rfl r34) fun v36 r36=>?_
  refine Arw (Ay DWindow.f_step Tryz.underlying165 rfl rfl L0u (by decide) rfl r36) fun v37 r37=>?_
  refine Arw (Ay DryStep.f_damp Tryz.underlying155 rfl rfl Mx (by decide) rfl r37) fun v38 r38=>?_
  refine Arw (Ax Mx rfl r38) fun v39 r39=>?_
  refine Arv (Ct Aak fun k40=>?_)
  refine Cx rfl (Dv (v:=v39) (a:=y_a35.damp) (c:=Arm) Mx rfl rfl r39 rfl ?_)
  refine Bb (a:=y_a35.damp) r39 fun ρ41 l41 r41=>?_
  replace rp:=Asj l41 rp
  replace r5:=At.mono l41 r5
  replace OG21_6:=Grow.mono l41 OG21_6
  refine Arx rfl rfl k31 fun K42 k42=>?_
  refine l_v (Ah (v:=(iV (a28))) rfl) ?_
  refine Arw (Ay Span.f_low Tryz.underlying41 rfl rfl ty3 (by decide) rfl r41) fun v43 r43=>?_
  have ⟨g44a,g44b⟩:=At.rng r43
  refine l_v (Bc ty3 rfl r43) ?_
  refine Arw (Ay Span.f_high Tryz.underlying41 rfl rfl ty3 (by decide) rfl r41) fun v45 r45=>?_
  have ⟨g46a,g46b⟩:=At.rng r45
  refine l_v (Bc ty3 rfl r45) ?_
  refine Arv (Bm (L0i) Tryz.func62 rfl rfl ⟨rfl,rfl,rfl,trivial⟩ ?_)
  refine l_v (Iy rfl) ?_
  refine l_k k42 ?_
  refine As (t:=!(inR a28 y_a35.damp.low y_a35.damp.high)) rfl (fun b47=>?_) (fun b47=>?_)
  ·have b48:=not_eq_t b47
   have q48:=Tr.1 b48
   refine w_q rfl rfl fun K49 k49=>?_
   refine l_v (Cp (v:=(.slice none 0 0)) rfl) ?_
   refine l_v (Cp (v:=(iV (1))) rfl) ?_
   refine l_k k49 ?_
   refine Hc OG21_6 fun ρ50 l50 r50=>?_
   refine Aj Ghost.drop ?_
   refine Aq ?_
   refine hret _ _ _ ?_
   refine ⟨(Asi (Asi (Asi (Asi l2 l5) l21) l41) l50),rfl,(.slice none 0 0),Eq.trans (b:=(.tuple #[(.slice none 0 0),(iV (1))])) (Mp (r:=6) (r':=7) (rs:=[]) (v:=(.slice none 0 0)) (v':=(iV (1))) (vs:=[]) ⟨rfl,rfl,trivial⟩) ?_,Val.cast ?_ Gx⟩
   ·exfalso; omega
   ·exfalso; omega
  have b51:=not_eq_f b47
  have q51:=Fz.1 b51
  refine Al ?_
  apply k30
  refine Ai fun K52 k52=>?_
  refine L1o ((og21_6 ++ ((k16,oC #[(iV (s.water)),(iV (s.colour)),(iV (s.heat))] 56) :: []))) [0,1,2,3,4,5,6,7] (by kernel_rfl) rfl rfl ?_
  refine L0q (i:=0) Aos rfl (by kernel_rfl) rfl ⟨Ash,(by repeat first | exact L0e | refine L0b ?_ | refine L0c ?_ | refine L0a ?_ | refine L0d ?_)⟩ rfl (Yld.o (Ah (v:=v5) h21_8)) ?_
  refine L0q (i:=1) Aot rfl (by kernel_rfl) rfl ⟨Ash,(by repeat first | exact L0e | refine L0b ?_ | refine L0c ?_ | refine L0a ?_ | refine L0d ?_)⟩ rfl (L3q (cs:=[(iV (s.water)),(iV (s.colour)),(iV (s.heat))]) (rs:=[]) ⟨_,Tryz.underlying56,rfl⟩ ⟨_,Ab Tryz.typeInfo56,rfl⟩ h21_9 (List.mem_append_right _ (List.mem_cons_self ..)) rfl rfl) ?_
  have r53:Val ρ41 (.agg #[(iV (s.water)),(iV (s.colour)),(iV (s.heat))]) (⟨s.water,s.colour,s.heat⟩:DryState):=DryState.shut (x:=(⟨s.water,s.colour,s.heat⟩:DryState)) (show I64 (s.water) from by constructor <;> omega) (show I64 (s.colour) from by constructor <;> omega) (show I64 (s.heat) from by constructor <;> omega)
  refine L0q (i:=2) Aou rfl (by kernel_rfl) rfl ⟨Ash,(by repeat first | exact L0e | refine L0b ?_ | refine L0c ?_ | refine L0a ?_ | refine L0d ?_)⟩ rfl (Yld.o (Ah (v:=vp) h21_1)) ?_
  refine L0q (i:=3) Aov rfl (by kernel_rfl) rfl ⟨Ash,(by repeat first | exact L0e | refine L0b ?_ | refine L0c ?_ | refine L0a ?_ | refine L0d ?_)⟩ rfl (Yld.o (Ah (v:=(iV ((i:Int)))) rfl)) ?_
  obtain ⟨a55,ha55⟩:=Ed (xs:=plan) (i:=i) (by omega)
  have hpg:plan.getD i 0 = a55:=by rw [List.getD_eq_getElem?_getD,ha55]; rfl
  refine L2j (i:=4) Aow rfl (by kernel_rfl) rfl ⟨Ash,(by repeat first | exact L0e | refine L0b ?_ | refine L0c ?_ | refine L0a ?_ | refine L0d ?_)⟩ rfl (L1d (Ch i Tryz.underlying49 ty3 rfl rp (q:=(i:Int)) rfl rfl ha55)) fun v54 r54=>?_
  have ⟨g56a,g56b⟩:=At.rng r54
  refine L0q (i:=5) Aox rfl (by kernel_rfl) rfl ⟨Ash,(by repeat first | exact L0e | refine L0b ?_ | refine L0c ?_ | refine L0a ?_ | refine L0d ?_)⟩ rfl (Yld.o (Bc ty3 rfl r54)) ?_
  refine L0j (i:=6) Aoy rfl (by kernel_rfl) rfl ⟨Ash,(by repeat first | exact L0e | refine L0b ?_ | refine L0c ?_ | refine L0a ?_ | refine L0d ?_)⟩ rfl (Yld.o (Ah (v:=(iV (a28))) rfl)) ⟨Ash,(by repeat first | exact L0e | refine L0b ?_ | refine L0c ?_ | refine L0a ?_ | refine L0d ?_)⟩ ?_
  refine L2s (i:=7) Aoz rfl (by kernel_rfl) rfl rfl (Cm (vs:=[v5,(.agg #[(iV (s.water)),(iV (s.colour)),(iV (s.heat))]),(iV (a55)),(iV (a28))]) (L7m r5 r53 ok hso (by have h:=hpi i (by omega); rw [hpg] at h; exact h) (by omega)) Tryz.func63 rfl rfl ⟨rfl,rfl,rfl,rfl,trivial⟩ fun v57 ρ57 σ57 hc57=>?_)
  obtain ⟨l57,s57,r57⟩:=hc57
  replace s57:=s57.symm; subst s57
  replace OG21_6:=Grow.mono l57 OG21_6
  refine ⟨⟨l57,(by repeat first | exact L0e | refine L0b ?_ | refine L0c ?_ | refine L0a ?_ | refine L0d ?_)⟩,?_⟩
  refine L5w Asd ?_
  obtain ⟨e58_,⟨i58_1a,i58_1b⟩,⟨i58_2a,i58_2b⟩,⟨i58_3a,i58_3b⟩⟩:=DryState.open_ r57
  have e58_c:v57.cells = [(iV ((L0f d ((⟨s.water,s.colour,s.heat⟩:DryState)) a55 a28).water)),(iV ((L0f d ((⟨s.water,s.colour,s.heat⟩:DryState)) a55 a28).colour)),(iV ((L0f d ((⟨s.water,s.colour,s.heat⟩:DryState)) a55 a28).heat))].toArray:=by rw [e58_]; rfl
  refine L1t (i:=8) Apa rfl (by kernel_rfl) (by kernel_rfl) rfl rfl (Li (i:=0) (vs:=[(iV ((L0f d ((⟨s.water,s.colour,s.heat⟩:DryState)) a55 a28).water)),(iV ((L0f d ((⟨s.water,s.colour,s.heat⟩:DryState)) a55 a28).colour)),(iV ((L0f d ((⟨s.water,s.colour,s.heat⟩:DryState)) a55 a28).heat))]) (c':=[(iV ((L0f d ((⟨s.water,s.colour,s.heat⟩:DryState)) a55 a28).water)),(iV ((L0f d ((⟨s.water,s.colour,s.heat⟩:DryState)) a55 a28).colour)),(iV ((L0f d ((⟨s.water,s.colour,s.heat⟩:DryState)) a55 a28).heat))]) ⟨_,Ab Tryz.typeInfo56,rfl⟩ h21_9 rfl e58_c rfl (Zh ⟨rfl,rfl,rfl,trivial⟩) rfl (Nat.le_of_ble_eq_true rfl) rfl ?_)
  refine L2r rfl ?_
  apply k52
  refine Ag rfl rfl ?_
  refine l_v (Ah (v:=ov21_6) h21_6) ?_
  refine Arv (Xo (i:=0) (cs:=[(iV ((L0f d ((⟨s.water,s.colour,s.heat⟩:DryState)) a55 a28).water)),(iV ((L0f d ((⟨s.water,s.colour,s.heat⟩:DryState)) a55 a28).colour)),(iV ((L0f d ((⟨s.water,s.colour,s.heat⟩:DryState)) a55 a28).heat))]) (rs:=[]) ⟨_,Tryz.underlying56,rfl⟩ ⟨_,Ab Tryz.typeInfo56,rfl⟩ h21_9 rfl rfl rfl ?_)
  have r59:Val ρ57 (.agg #[(iV ((L0f d ((⟨s.water,s.colour,s.heat⟩:DryState)) a55 a28).water)),(iV ((L0f d ((⟨s.water,s.colour,s.heat⟩:DryState)) a55 a28).colour)),(iV ((L0f d ((⟨s.water,s.colour,s.heat⟩:DryState)) a55 a28).heat))]) (⟨(L0f d ((⟨s.water,s.colour,s.heat⟩:DryState)) a55 a28).water,(L0f d ((⟨s.water,s.colour,s.heat⟩:DryState)) a55 a28).colour,(L0f d ((⟨s.water,s.colour,s.heat⟩:DryState)) a55 a28).heat⟩:DryState):=DryState.shut (x:=(⟨(L0f d ((⟨s.water,s.colour,s.heat⟩:DryState)) a55 a28).water,(L0f d ((⟨s.water,s.colour,s.heat⟩:DryState)) a55 a28).colour,(L0f d ((⟨s.water,s.colour,s.heat⟩:DryState)) a55 a28).heat⟩:DryState)) (show I64 ((L0f d ((⟨s.water,s.colour,s.heat⟩:DryState)) a55 a28).water) from by constructor <;> omega) (show I64 ((L0f d ((⟨s.water,s.colour,s.heat⟩:DryState)) a55 a28).colour) from by constructor <;> omega) (show I64 ((L0f d ((⟨s.water,s.colour,s.heat⟩:DryState)) a55 a28).heat) from by constructor <;> omega)
  refine Arv (Bi (α:=DryState) (xs:=[(⟨(L0f d ((⟨s.water,s.colour,s.heat⟩:DryState)) a55 a28).water,(L0f d ((⟨s.water,s.colour,s.heat⟩:DryState)) a55 a28).colour,(L0f d ((⟨s.water,s.colour,s.heat⟩:DryState)) a55 a28).heat⟩:DryState)]) (vs:=[(.agg #[(iV ((L0f d ((⟨s.water,s.colour,s.heat⟩:DryState)) a55 a28).water)),(iV ((L0f d ((⟨s.water,s.colour,s.heat⟩:DryState)) a55 a28).colour)),(iV ((L0f d ((⟨s.water,s.colour,s.heat⟩:DryState)) a55 a28).heat))])]) Tryz.underlying65 L0o L2x rfl (by decide) (Dk (os:=[.tmp 64]) ⟨rfl,trivial⟩) ⟨r59,trivial⟩ rfl (by decide) fun k60 cs60 R60=>?_)
  have G60:Grow ρ57 56 (.slice (some ⟨k60,0,none⟩) 1 1) ([(⟨(L0f d ((⟨s.water,s.colour,s.heat⟩:DryState)) a55 a28).water,(L0f d ((⟨s.water,s.colour,s.heat⟩:DryState)) a55 a28).colour,(L0f d ((⟨s.water,s.colour,s.heat⟩:DryState)) a55 a28).heat⟩:DryState)]:List DryState) [(k60,oC cs60.toArray 56)]:=Bs R60 rfl (by decide)
  refine Ca G60 fun ρ62 l62 r62=>?_
  replace OG21_6:=Grow.mono l62 OG21_6
  refine Bj (Asg Asc) ?_
  refine Arv (Gc (σ:=((k16,oC #[(iV ((L0f d ((⟨s.water,s.colour,s.heat⟩:DryState)) a55 a28).water)),(iV ((L0f d ((⟨s.water,s.colour,s.heat⟩:DryState)) a55 a28).colour)),(iV ((L0f d ((⟨s.water,s.colour,s.heat⟩:DryState)) a55 a28).heat))] 56) :: σ)) (gr:=og21_6) (xs:=L1i d plan air i) (ys:=([(⟨(L0f d ((⟨s.water,s.colour,s.heat⟩:DryState)) a55 a28).water,(L0f d ((⟨s.water,s.colour,s.heat⟩:DryState)) a55 a28).colour,(L0f d ((⟨s.water,s.colour,s.heat⟩:DryState)) a55 a28).heat⟩:DryState)]:List DryState)) Tryz.underlying65 Tryz.underlying65 (Ab Tryz.typeInfo56) rfl (Nat.le_of_ble_eq_true rfl) rfl rfl rfl rfl OG21_6 r62 (by simp only [List.length_append,List.length_cons,List.length_nil,L1i,List.length_map,List.length_range]; omega) fun v61 gr61 G61=>?_)
  refine l_v (Cp (v:=v61) rfl) ?_
  refine l_k k25 ?_
  refine Ag rfl rfl ?_
  refine l_v (Br h21_33 rfl (z:=(((i + 1):Nat):Int)) (Bo (by first | rfl | omega | (push_cast; rfl)) (by omega) (by omega))) ?_
  refine l_v (Ah (v:=(iV ((((i + 1):Nat):Int)))) rfl) ?_
  apply Ac
  refine ⟨_,?_,((i + 1)),((L0f d ((⟨s.water,s.colour,s.heat⟩:DryState)) a55 a28)),v61,gr61,rfl,rfl,(Asi (Asi (Asi l21 l41) l57) l62),rfl,h21_1,h21_8,h21_9,h21_31,h21_32,rfl,rfl,(by omega),(by show _ = L0f d (L1r d plan air i) (plan.getD i 0) (air.getD i 0); rw [hpg,hag,← p21_1]),(Fy (by unfold L1i; rw [List.range_succ,List.map_append]; congr 1; simp only [List.map_cons,List.map_nil]; congr 1; show _ = L0f d (L1r d plan air i) (plan.getD i 0) (air.getD i 0); rw [hpg,hag,← p21_1]) G61),trivial⟩
  omega
 have q24:=of_decide_eq_false b24
 refine Bx ?_
 apply k18
 refine w_q rfl rfl fun K63 k63=>?_
 refine l_v (Ah (v:=ov21_6) h21_6) ?_
 refine l_v (Cp (v:=ov21_6) rfl) ?_
 refine l_v (Cp (v:=(iV (0))) rfl) ?_
 refine l_k k63 ?_
 refine Hc OG21_6 fun ρ64 l64 r64=>?_
 refine Aj Ghost.drop ?_
 refine Aq ?_
 refine hret _ _ _ ?_
 refine ⟨(Asi (Asi (Asi l2 l5) l21) l64),rfl,ov21_6,Eq.trans (b:=(.tuple #[ov21_6,(iV (0))])) (Mp (r:=6) (r':=7) (rs:=[]) (v:=ov21_6) (v':=(iV (0))) (vs:=[]) ⟨rfl,rfl,trivial⟩) ?_,Val.cast ?_ r64⟩
 ·rfl
 ·rw [show d.steps.length = i by omega]
end Go.Proofs.YtphgjjmlnkgghaaGreatDoor

namespace Go.Proofs.YtphgjjmlnkgghaaGreatDoor
set_option maxHeartbeats 1000000
open Go
set_option maxRecDepth 100000 in
theorem L6i {mn:Bool} {X:Frame→List Frame→Ro→Own→Cy→Prop} {ρ:Ro} {σ:Own} {x:Span} {vx:Value} {sales:List Int} {vs:Value} (rx:Val ρ vx x) (rs:Val ρ vs sales) (hs8:sales.length ≤ 8):CallsH (CX mn X) 23 #[vx,vs] ρ σ (fun w ρ' σ'=>Ro.le ρ ρ'∧σ' = σ∧Val ρ' w (L0h x sales:Market)):=by
 refine Lt (n:=30) (args:=[vx,vs]) [.cell 4 36] Tryz.func23 rfl rfl rfl rfl fun Q hret hnor=>?_
 refine w_q rfl rfl fun K1 k1=>?_
 refine Arv (Eb (v:=vx) rfl fun k2=>?_)
 refine Bb (a:=x) rx fun ρ2 l2 r2=>?_
 replace rs:=Asj l2 rs
 refine Arv (Ct Apg fun k3=>?_)
 refine Arx rfl rfl k1 fun K4 k4=>?_
 refine Arv (Bi (α:=ByteArray) (xs:=[(ByteArray.mk #[97,108,108])]) (vs:=[(.string ((ByteArray.mk #[97,108,108])))]) Tryz.underlying32 ty9 zr9 rfl (by decide) (Dk (os:=[.const (.string (ByteArray.mk #[97,108,108]))]) ⟨rfl,trivial⟩) ⟨(Jk.2 ⟨rfl,Nat.le_of_ble_eq_true rfl⟩),trivial⟩ rfl (by decide) fun k5 cs5 R5=>?_)
 have G5:Grow ρ2 9 (.slice (some ⟨k5,0,none⟩) 1 1) ([(ByteArray.mk #[97,108,108])]:List ByteArray) [(k5,oC cs5.toArray 9)]:=Bs R5 rfl (by decide)
 refine Arw (Ax Mx rfl r2) fun v6 r6=>?_
 obtain ⟨e7_,⟨i7_1a,i7_1b⟩,⟨i7_2a,i7_2b⟩⟩:=Span.open_ r6
 have e7_c:v6.cells = [(iV (x.low)),(iV (x.high))].toArray:=by rw [e7_]; rfl
 have r8:Val ρ2 (.agg #[(.string ((ByteArray.mk #[102,105,101,108,100]))),(iV (0)),(iV (x.low)),(iV (x.high)),(.slice none 0 0)]) (⟨(ByteArray.mk #[102,105,101,108,100]),0,⟨x.low,x.high⟩,[]⟩:FField):=FField.shut (x:=(⟨(ByteArray.mk #[102,105,101,108,100]),0,⟨x.low,x.high⟩,[]⟩:FField)) (show ((ByteArray.mk #[102,105,101,108,100])).size < 2 ^ 60 from Nat.le_of_ble_eq_true rfl) (show I64 (0) from by constructor <;> omega) (show I64 (x.low) from by constructor <;> omega) (show I64 (x.high) from by constructor <;> omega) Gx
 refine l_v (Dn (ns:=[1,1,2,1]) (vs:=[(0,(.string ((ByteArray.mk #[102,105,101,108,100])))),(2,v6)]) (zc:=Aah) (cs:=[(.string ((ByteArray.mk #[102,105,101,108,100]))),(iV (0)),(iV (x.low)),(iV (x.high)),(.slice none 0 0)]) Tryz.underlying47 Xu rfl ⟨⟨_,Ab Tryz.typeInfo9,rfl⟩,⟨_,Ab Tryz.typeInfo3,rfl⟩,⟨_,Ab Tryz.typeInfo41,rfl⟩,⟨_,Ab Tryz.typeInfo26,rfl⟩,trivial⟩ (EvB.map ⟨⟨rfl,rfl⟩,⟨rfl,rfl⟩,trivial⟩) ((Be (cs:=[(.string ((ByteArray.mk #[102,105,101,108,100])))]) rfl rfl (Nat.le_of_ble_eq_true rfl)).trans ((Be (cs:=[(iV (x.low)),(iV (x.high))]) e7_c rfl (Nat.le_of_ble_eq_true rfl)).trans rfl))) ?_
 refine Arv (Bi (α:=FField) (xs:=[(⟨(ByteArray.mk #[102,105,101,108,100]),0,⟨x.low,x.high⟩,[]⟩:FField)]) (vs:=[(.agg #[(.string ((ByteArray.mk #[102,105,101,108,100]))),(iV (0)),(iV (x.low)),(iV (x.high)),(.slice none 0 0)])]) Tryz.underlying33 Lo Xu rfl (by decide) (Dk (os:=[.tmp 9]) ⟨rfl,trivial⟩) ⟨r8,trivial⟩ rfl (by decide) fun k9 cs9 R9=>?_)
 have G9:Grow ρ2 47 (.slice (some ⟨k9,0,none⟩) 1 1) ([(⟨(ByteArray.mk #[102,105,101,108,100]),0,⟨x.low,x.high⟩,[]⟩:FField)]:List FField) [(k9,oC cs9.toArray 47)]:=Bs R9 rfl (by decide)
 refine Bj (Asg Arz) ?_
 refine Ca G5 fun ρ10 l10 r10=>?_
 replace rs:=Asj l10 rs
 replace G9:=Grow.mono l10 G9
 refine Ca G9 fun ρ11 l11 r11=>?_
 replace rs:=Asj l11 rs
 replace r10:=Asj l11 r10
 have r12:Val ρ11 (.agg #[(.slice (some ⟨k5,0,none⟩) 1 1),(.slice none 0 0),(.slice (some ⟨k9,0,none⟩) 1 1),(.slice none 0 0)]) (⟨([(ByteArray.mk #[97,108,108])]:List ByteArray),[],([(⟨(ByteArray.mk #[102,105,101,108,100]),0,⟨x.low,x.high⟩,[]⟩:FField)]:List FField),[]⟩:Market):=Market.shut (x:=(⟨([(ByteArray.mk #[97,108,108])]:List ByteArray),[],([(⟨(ByteArray.mk #[102,105,101,108,100]),0,⟨x.low,x.high⟩,[]⟩:FField)]:List FField),[]⟩:Market)) r10 Gx r11 Gx
 refine l_v (Dn (ns:=[1,1,1,1]) (vs:=[(0,(.slice (some ⟨k5,0,none⟩) 1 1)),(2,(.slice (some ⟨k9,0,none⟩) 1 1))]) (zc:=Amj) (cs:=[(.slice (some ⟨k5,0,none⟩) 1 1),(.slice none 0 0),(.slice (some ⟨k9,0,none⟩) 1 1),(.slice none 0 0)]) Tryz.underlying36 Apg rfl ⟨⟨_,Ab Tryz.typeInfo32,rfl⟩,⟨_,Ab Tryz.typeInfo32,rfl⟩,⟨_,Ab Tryz.typeInfo33,rfl⟩,⟨_,Ab Tryz.typeInfo34,rfl⟩,trivial⟩ (EvB.map ⟨⟨rfl,rfl⟩,⟨rfl,rfl⟩,trivial⟩) ((Be (cs:=[(.slice (some ⟨k5,0,none⟩) 1 1)]) (Val.cells_l r10) rfl (Nat.le_of_ble_eq_true rfl)).trans ((Be (cs:=[(.slice (some ⟨k9,0,none⟩) 1 1)]) (Val.cells_l r11) rfl (Nat.le_of_ble_eq_true rfl)).trans rfl))) ?_
 refine Arv (Ct Apg fun k13=>?_)
 refine Cx rfl (Li (i:=0) (vs:=[(.slice (some ⟨k5,0,none⟩) 1 1),(.slice none 0 0),(.slice (some ⟨k9,0,none⟩) 1 1),(.slice none 0 0)]) (c':=[(.slice (some ⟨k5,0,none⟩) 1 1),(.slice none 0 0),(.slice (some ⟨k9,0,none⟩) 1 1),(.slice none 0 0)]) ⟨_,Ab Tryz.typeInfo36,rfl⟩ rfl rfl rfl rfl (Zh ⟨(Val.single_l r10),rfl,(Val.single_l r11),rfl,trivial⟩) rfl (Nat.le_of_ble_eq_true rfl) rfl ?_)
 refine Ary rfl rfl k4 fun K14 K15 k14 k15=>?_
 refine l_v (Cp (v:=(iV (0))) rfl) ?_
 refine l_k k15 ?_
 refine Ao ?_
 refine Cc (fun mm ee dd ρ' σ'=>∃ (i:Nat) (ov16_5c3:Value) (og16_5c3:Own),(sales.length - i) = mm∧[] = dd∧Ro.le ρ11 ρ'∧(og16_5c3 ++ ((k13,oC #[(.slice (some ⟨k5,0,none⟩) 1 1),(.slice none 0 0),(.slice (some ⟨k9,0,none⟩) 1 1),ov16_5c3] 36) :: ((k3,oC #[(.slice none 0 0),(.slice none 0 0),(.slice none 0 0),(.slice none 0 0)] 36) :: σ))) = σ'∧ee 1 = vs∧ee 4 = (.pointer (some ⟨k3,0,none⟩))∧ee 5 = (.pointer (some ⟨k13,0,none⟩))∧ee 6 = (iV ((i:Int)))∧(i ≤ sales.length)∧Grow ρ' 146 ov16_5c3 (L1a (sales.take i)) og16_5c3∧True) (m:=_) ⟨0,(.slice none 0 0),[],rfl,rfl,Ash,rfl,rfl,rfl,rfl,rfl,(Nat.zero_le _),(Fy (by simp [L1a]) Hm),trivial⟩ ?_
 rintro m16 e16 _ ρ16 _ ⟨i,ov16_5c3,og16_5c3,rfl,rfl,l16,rfl,h16_1,h16_4,h16_5,h16_6,p16_0,OG16_5c3,_⟩
 replace rs:=Asj l16 rs
 replace r10:=Asj l16 r10
 replace r11:=Asj l16 r11
 refine Asb rfl rfl fun K17 K18 k17 k18=>?_
 refine l_v (Ah (v:=(iV ((i:Int)))) h16_6) ?_
 refine l_v (Ah (v:=vs) h16_1) ?_
 have g19:=Val.len rs
 refine l_v (Ci (el:=3) Tryz.underlying49 rfl rs) ?_
 refine l_v (Da rfl rfl) ?_
 refine l_k k18 ?_
 refine As (t:=decide ((i:Int) < ((sales.length:Nat):Int))) rfl (fun b20=>?_) (fun b20=>?_)
 ·have q20:=of_decide_eq_true b20
  refine Al ?_
  apply k17
  refine Ai fun K21 k21=>?_
  refine Ao ?_
  refine L1o (((k13,oC #[(.slice (some ⟨k5,0,none⟩) 1 1),(.slice none 0 0),(.slice (some ⟨k9,0,none⟩) 1 1),ov16_5c3] 36) :: ((k3,oC #[(.slice none 0 0),(.slice none 0 0),(.slice none 0 0),(.slice none 0 0)] 36) :: []))) [0,1,2,3,4,5,6,7,8,9,10] (by kernel_rfl) rfl rfl ?_
  refine L0q (i:=0) [o1,o0,o0,o0,o0,o0,o0,o0,o0,o0,o0,o0] rfl (by kernel_rfl) rfl ⟨Ash,(by repeat first | exact L0e | refine L0b ?_ | refine L0c ?_ | refine L0a ?_ | refine L0d ?_)⟩ rfl (Yld.o (Cb Tryz.underlying36 rfl rfl ⟨_,Ab Tryz.typeInfo34,rfl⟩ (by decide) h16_5 rfl)) ?_
  refine L0q (i:=1) [o1,o1,o0,o0,o0,o0,o0,o0,o0,o0,o0,o0] rfl (by kernel_rfl) rfl ⟨Ash,(by repeat first | exact L0e | refine L0b ?_ | refine L0c ?_ | refine L0a ?_ | refine L0d ?_)⟩ rfl (L1c (v:=ov16_5c3) ⟨_,Tryz.underlying34,rfl⟩ rfl (List.mem_cons_self ..) rfl) ?_
  refine L0q (i:=2) [o1,o1,o1,o0,o0,o0,o0,o0,o0,o0,o0,o0] rfl (by kernel_rfl) rfl ⟨Ash,(by repeat first | exact L0e | refine L0b ?_ | refine L0c ?_ | refine L0a ?_ | refine L0d ?_)⟩ rfl (Yld.o (Ah (v:=vs) h16_1)) ?_
  refine L0q (i:=3) [o1,o1,o1,o1,o0,o0,o0,o0,o0,o0,o0,o0] rfl (by kernel_rfl) rfl ⟨Ash,(by repeat first | exact L0e | refine L0b ?_ | refine L0c ?_ | refine L0a ?_ | refine L0d ?_)⟩ rfl (Yld.o (Ah (v:=(iV ((i:Int)))) h16_6)) ?_
  obtain ⟨a23,ha23⟩:=Ed (xs:=sales) (i:=i) (by omega)
  refine L2j (i:=4) [o1,o1,o1,o1,o1,o0,o0,o0,o0,o0,o0,o0] rfl (by kernel_rfl) rfl ⟨Ash,(by repeat first | exact L0e | refine L0b ?_ | refine L0c ?_ | refine L0a ?_ | refine L0d ?_)⟩ rfl (L1d (Ch i Tryz.underlying49 ty3 rfl rs (q:=(i:Int)) rfl rfl ha23)) fun v22 r22=>?_
  have ⟨g24a,g24b⟩:=At.rng r22
  refine L0q (i:=5) [o1,o1,o1,o1,o1,o1,o0,o0,o0,o0,o0,o0] rfl (by kernel_rfl) rfl ⟨Ash,(by repeat first | exact L0e | refine L0b ?_ | refine L0c ?_ | refine L0a ?_ | refine L0d ?_)⟩ rfl (Yld.o (Bc ty3 rfl r22)) ?_
  refine L2s (i:=6) [o1,o1,o1,o1,o1,o1,o1,o0,o0,o0,o0,o0] rfl (by kernel_rfl) rfl rfl (Bi (α:=Int) (xs:=[0]) (vs:=[(iV (0))]) Tryz.underlying49 ty3 zr3 rfl (by decide) (Dk (os:=[.const (.int .i64 0)]) ⟨rfl,trivial⟩) ⟨(Cv.2 ⟨rfl,by constructor <;> omega⟩),trivial⟩ rfl (by decide) fun k25 cs25 R25=>⟨⟨Ash,(by repeat first | exact L0e | refine L0b ?_ | refine L0c ?_ | refine L0a ?_ | refine L0d ?_)⟩,?_⟩)
  have G25:Grow ρ16 3 (.slice (some ⟨k25,0,none⟩) 1 1) ([0]:List Int) [(k25,oC cs25.toArray 3)]:=Bs R25 rfl (by decide)
  refine L2u G25 (by repeat first | exact L0e | refine L0b ?_ | refine L0c ?_ | refine L0a ?_ | refine L0d ?_) fun ρ26 l26 r26=>?_
  replace OG16_5c3:=Grow.mono l26 OG16_5c3
  have r27:Val ρ26 (.agg #[(iV (a23)),(.slice (some ⟨k25,0,none⟩) 1 1)]) (⟨a23,([0]:List Int)⟩:Sale):=Sale.shut (x:=(⟨a23,([0]:List Int)⟩:Sale)) (show I64 (a23) from by constructor <;> omega) r26
  refine L0j (i:=7) [o1,o1,o1,o1,o1,o1,o1,o1,o0,o0,o0,o0] rfl (by kernel_rfl) rfl ⟨l26,(by repeat first | exact L0e | refine L0b ?_ | refine L0c ?_ | refine L0a ?_ | refine L0d ?_)⟩ rfl (Yld.o (Dn (ns:=[1,1]) (vs:=[(0,(iV (a23))),(1,(.slice (some ⟨k25,0,none⟩) 1 1))]) (zc:=Akd) (cs:=[(iV (a23)),(.slice (some ⟨k25,0,none⟩) 1 1)]) Tryz.underlying146 Agb rfl ⟨⟨_,Ab Tryz.typeInfo3,rfl⟩,⟨_,Ab Tryz.typeInfo49,rfl⟩,trivial⟩ (EvB.map ⟨⟨rfl,rfl⟩,⟨rfl,rfl⟩,trivial⟩) ((Be (cs:=[(iV (a23))]) rfl rfl (Nat.le_of_ble_eq_true rfl)).trans ((Be (cs:=[(.slice (some ⟨k25,0,none⟩) 1 1)]) (Val.cells_l r26) rfl (Nat.le_of_ble_eq_true rfl)).trans rfl)))) ⟨Ash,(by repeat first | exact L0e | refine L0b ?_ | refine L0c ?_ | refine L0a ?_ | refine L0d ?_)⟩ ?_
  refine L2s (i:=8) Aoo rfl (by kernel_rfl) rfl rfl (Bi (α:=Sale) (xs:=[(⟨a23,([0]:List Int)⟩:Sale)]) (vs:=[(.agg #[(iV (a23)),(.slice (some ⟨k25,0,none⟩) 1 1)])]) Tryz.underlying34 Up Agb rfl (by decide) (Dk (os:=[.tmp 25]) ⟨rfl,trivial⟩) ⟨r27,trivial⟩ rfl (by decide) fun k28 cs28 R28=>⟨⟨l26,(by repeat first | exact L0e | refine L0b ?_ | refine L0c ?_ | refine L0a ?_ | refine L0d ?_)⟩,?_⟩)
  have G28:Grow ρ26 146 (.slice (some ⟨k28,0,none⟩) 1 1) ([(⟨a23,([0]:List Int)⟩:Sale)]:List Sale) [(k28,oC cs28.toArray 146)]:=Bs R28 rfl (by decide)
  refine L2u G28 (by repeat first | exact L0e | refine L0b ?_ | refine L0c ?_ | refine L0a ?_ | refine L0d ?_) fun ρ30 l30 r30=>?_
  replace OG16_5c3:=Grow.mono l30 OG16_5c3
  refine L2s (i:=9) Amg rfl (by kernel_rfl) rfl rfl (Gc (σ:=((k13,oC #[(.slice (some ⟨k5,0,none⟩) 1 1),(.slice none 0 0),(.slice (some ⟨k9,0,none⟩) 1 1),ov16_5c3] 36) :: ((k3,oC #[(.slice none 0 0),(.slice none 0 0),(.slice none 0 0),(.slice none 0 0)] 36) :: σ))) (gr:=og16_5c3) (xs:=L1a (sales.take i)) (ys:=([(⟨a23,([0]:List Int)⟩:Sale)]:List Sale)) Tryz.underlying34 Tryz.underlying34 (Ab Tryz.typeInfo146) rfl (Nat.le_of_ble_eq_true rfl) rfl rfl rfl rfl OG16_5c3 r30 (by simp only [List.length_append,List.length_cons,List.length_nil,L1a,List.length_map,List.length_take] at *; omega) fun v29 gr29 G29=>⟨⟨(Asi l26 l30),(by repeat first | exact L0e | refine L0b ?_ | refine L0c ?_ | refine L0a ?_ | refine L0d ?_)⟩,?_⟩)
  refine L0j (i:=10) zZ0 rfl (by kernel_rfl) rfl ⟨(Asi l26 l30),(by repeat first | exact L0e | refine L0b ?_ | refine L0c ?_ | refine L0a ?_ | refine L0d ?_)⟩ rfl (Yld.o (Cb Tryz.underlying36 rfl rfl ⟨_,Ab Tryz.typeInfo34,rfl⟩ (by decide) h16_5 rfl)) ⟨Ash,(by repeat first | exact L0e | refine L0b ?_ | refine L0c ?_ | refine L0a ?_ | refine L0d ?_)⟩ ?_
  refine L5w Asd ?_
  refine L1t (i:=11) zZ1 rfl (by kernel_rfl) (by kernel_rfl) rfl rfl (Cz (j:=0) (v:=v29) ⟨_,Ab Tryz.typeInfo34,rfl⟩ rfl rfl (Grow.single G29) rfl (Nat.le_of_ble_eq_true rfl) ?_)
  refine L2r rfl ?_
  apply k21
  refine Ag rfl rfl ?_
  refine l_v (Ah (v:=(iV ((i:Int)))) h16_6) ?_
  refine l_v (Br rfl rfl (z:=(((i + 1):Nat):Int)) (Bo (by first | rfl | omega | (push_cast; rfl)) (by omega) (by omega))) ?_
  refine l_v (Cp (v:=(iV ((((i + 1):Nat):Int)))) rfl) ?_
  refine Bj (Asg ((p_c Asd).trans Arz)) ?_
  refine Bj (Asg Arz) ?_
  refine Bj (Asg ((p_c Asc).trans Asc)) ?_
  apply Ac
  refine ⟨_,?_,((i + 1)),v29,gr29,rfl,rfl,(Asi (Asi l16 l26) l30),rfl,h16_1,h16_4,h16_5,rfl,(by omega),(Fy (by unfold L1a; rw [Tw ha23]) G29),trivial⟩
  omega
 have q20:=of_decide_eq_false b20
 refine Bx ?_
 apply k14
 refine w_q rfl rfl fun K31 k31=>?_
 refine Ca OG16_5c3 fun ρ32 l32 r32=>?_
 replace rs:=Asj l32 rs
 replace r10:=Asj l32 r10
 replace r11:=Asj l32 r11
 refine Arv (Xo (i:=0) (cs:=[(.slice (some ⟨k5,0,none⟩) 1 1),(.slice none 0 0),(.slice (some ⟨k9,0,none⟩) 1 1),ov16_5c3]) (rs:=[]) ⟨_,Tryz.underlying36,rfl⟩ ⟨_,Ab Tryz.typeInfo36,rfl⟩ h16_5 rfl rfl rfl ?_)
 have r33:Val ρ32 (.agg #[(.slice (some ⟨k5,0,none⟩) 1 1),(.slice none 0 0),(.slice (some ⟨k9,0,none⟩) 1 1),ov16_5c3]) (⟨([(ByteArray.mk #[97,108,108])]:List ByteArray),[],([(⟨(ByteArray.mk #[102,105,101,108,100]),0,⟨x.low,x.high⟩,[]⟩:FField)]:List FField),L1a (sales.take i)⟩:Market):=Market.shut (x:=(⟨([(ByteArray.mk #[97,108,108])]:List ByteArray),[],([(⟨(ByteArray.mk #[102,105,101,108,100]),0,⟨x.low,x.high⟩,[]⟩:FField)]:List FField),L1a (sales.take i)⟩:Market)) r10 Gx r11 r32
 refine Cx rfl (Li (i:=1) (vs:=[(.slice (some ⟨k5,0,none⟩) 1 1),(.slice none 0 0),(.slice (some ⟨k9,0,none⟩) 1 1),ov16_5c3]) (c':=[(.slice (some ⟨k5,0,none⟩) 1 1),(.slice none 0 0),(.slice (some ⟨k9,0,none⟩) 1 1),ov16_5c3]) ⟨_,Ab Tryz.typeInfo36,rfl⟩ h16_4 rfl rfl rfl (Zh ⟨(Val.single_l r10),rfl,(Val.single_l r11),(Val.single_l r32),trivial⟩) rfl (Nat.le_of_ble_eq_true rfl) rfl ?_)
 refine l_k k31 ?_
 refine Aj Ghost.drop ?_
 refine Aq ?_
 have r34:Val ρ32 (.agg #[(.slice (some ⟨k5,0,none⟩) 1 1),(.slice none 0 0),(.slice (some ⟨k9,0,none⟩) 1 1),ov16_5c3]) (⟨([(ByteArray.mk #[97,108,108])]:List ByteArray),[],([(⟨(ByteArray.mk #[102,105,101,108,100]),0,⟨x.low,x.high⟩,[]⟩:FField)]:List FField),L1a (sales.take i)⟩:Market):=Market.shut (x:=(⟨([(ByteArray.mk #[97,108,108])]:List ByteArray),[],([(⟨(ByteArray.mk #[102,105,101,108,100]),0,⟨x.low,x.high⟩,[]⟩:FField)]:List FField),L1a (sales.take i)⟩:Market)) r10 Gx r11 r32
 refine hret _ _ _ _ _ [(.agg #[(.slice (some ⟨k5,0,none⟩) 1 1),(.slice none 0 0),(.slice (some ⟨k9,0,none⟩) 1 1),ov16_5c3])] ⟨(Qh ⟨_,Tryz.underlying36,rfl⟩ ⟨_,Ab Tryz.typeInfo36,rfl⟩ h16_4 (i:=0) rfl rfl),trivial⟩ Ghost.drop ?_
 refine ⟨(Asi (Asi (Asi (Asi l2 l10) l11) l16) l32),rfl,Abz (v:=(.agg #[(.slice (some ⟨k5,0,none⟩) 1 1),(.slice none 0 0),(.slice (some ⟨k9,0,none⟩) 1 1),ov16_5c3])) rfl (Val.cast ?_ r34)⟩
 ·rw [show i = sales.length by omega,List.take_length]; rfl
end Go.Proofs.YtphgjjmlnkgghaaGreatDoor

namespace Go.Proofs.YtphgjjmlnkgghaaGreatDoor
set_option maxHeartbeats 1000000
open Go
section
variable {ρ:Ro} {σ:Own} {m:Market} {g:Int} {vm vl:Value}
theorem L6t (h0:Cf m = 0) (hg:Ahr m = g) (rm:Val ρ vm m):CallsH (CX true (Ade Tryz.prog)) 38 #[vm] ρ σ (fun w ρ' σ'=>Ro.le ρ ρ'∧σ' = σ∧∃ v0,w = (.tuple #[(.int .i64 g),v0,(.int .i64 0)])∧Val ρ' v0 (Ahs m:List Int)):=by
 have h:=Aeh (mn:=true) (X:=Ade Tryz.prog) (σ:=σ) rm
 rw [h0,hg] at h; exact h
theorem L6s (h0:Cf m = 0) (rm:Val ρ vm m) (hnr:Jp σ):CallsH (CX true (Ade Tryz.prog)) 39 #[vm] ρ σ (fun w ρ' σ'=>Ro.le ρ ρ'∧σ' = σ∧∃ v0,w = (.tuple #[(iV (Akw m)),v0,(.int .i64 0)])∧Val ρ' v0 (Akx m:List Int)):=by
 have h:=Agt rm hnr
 rw [h0] at h; exact h
theorem L6w (h0:Cf m = 0) (hg:Ahr m = g) (rm:Val ρ vm m) (rl:Val ρ vl (Ahs m:List Int)):CallsH (CX true (Ade Tryz.prog)) 65 #[vm,vl] ρ σ (fun w ρ' σ'=>ρ' = ρ∧σ' = σ∧w = (.tuple #[(.int .i64 g),(.int .i64 0)])):=by
 have h:=L6v (mn:=true) (X:=Ade Tryz.prog) (σ:=σ) rm rl
 rw [(L5d h0).1,(L5d h0).2,hg] at h; exact h
theorem L3f (h0:Cf m = 0) (rm:Val ρ vm m):CallsH (CX true (Ade Tryz.prog)) 13 #[vm] ρ σ (fun w ρ' σ'=>ρ' = ρ∧σ' = σ∧w = .int .i64 0):=by
 have h:=L3s (mn:=true) (X:=Ade Tryz.prog) (σ:=σ) rm
 rw [h0] at h; exact h
theorem L8b (h0:Cf m = 0) (hg:Ahr m = g):(decide (Akw m > 0) == decide (g > 0)) = true:=by
 have h:=L8t h0
 rw [hg] at h
 by_cases hc:Akw m > 0
 ·rw [decide_eq_true hc,decide_eq_true (h.2 hc)]; rfl
 ·rw [decide_eq_false hc,decide_eq_false (fun x=>hc (h.1 x))]; rfl
end
theorem L7b {d:Drying} {plan air:List Int} {n i:Nat} {a:DryState} (h:(L1i d plan air n)[i]? = some a) (hi:i + 1 = n):a = L1r d plan air n:=by
 subst hi
 unfold L1i at h
 rw [List.getElem?_map,List.getElem?_range (by omega)] at h
 exact (Option.some.inj h).symm
set_option maxHeartbeats 1000000 in
set_option maxRecDepth 100000 in
theorem L7n  {ρ:Ro} {σ:Own} {m:Market} {g:Int} {vm:Value} (hnr:Jp σ) (rm:Val ρ vm m) (h0:Cf m = 0) (hgr:Ahr m = g):CallsH (CX true (Ade Tryz.prog)) 22 #[vm,(iV (g))] ρ σ (fun w ρ' σ'=>Ro.le ρ ρ'∧σ' = σ∧w = .bool true):=by
 refine Bh (n:=61) (args:=[vm,(iV (g))]) [4] Tryz.func22 rfl rfl rfl rfl fun Q hret hnor=>?_
 refine w_q rfl rfl fun K1 k1=>?_
 refine Arv (Eb (v:=vm) rfl fun k2=>?_)
 refine Bb (a:=m) rm fun ρ2 l2 r2=>?_
 refine l_v (Cp (v:=(.bool (false))) rfl) ?_
 refine Ary rfl rfl k1 fun K3 K4 k3 k4=>?_
 refine Arw (Ax Ln rfl r2) fun v5 r5=>?_
 refine Arv (Bm (L3f h0 r5) Tryz.func13 rfl rfl ⟨rfl,trivial⟩ ?_)
 refine l_v (Dg rfl rfl) ?_
 refine l_k k4 ?_
 refine Cg rfl rfl ?_
 refine Al ?_
 apply k3
 refine w_q rfl rfl fun K6 k6=>?_
 refine Arw (Ax Ln rfl r2) fun v7 r7=>?_
 refine Arv (Cm (vs:=[v7]) (L6t h0 hgr r7) Tryz.func38 rfl rfl ⟨rfl,trivial⟩ fun w8 ρ8 σ8 hc8=>?_)
 obtain ⟨l8,s8,v8_0,w8e,r8_0⟩:=hc8
 replace s8:=s8.symm; subst s8 w8e
 replace r2:=At.mono l8 r2
 refine l_v (Ah (v:=(.tuple #[(iV (g)),v8_0,(iV (0))])) rfl) ?_
 refine l_v (Bk (vs:=#[(iV (g)),v8_0,(iV (0))]) rfl (v:=(iV (g))) rfl) ?_
 refine l_v (Bk (vs:=#[(iV (g)),v8_0,(iV (0))]) rfl (v:=v8_0) rfl) ?_
 refine l_v (Bk (vs:=#[(iV (g)),v8_0,(iV (0))]) rfl (v:=(iV (0))) rfl) ?_
 refine l_v (Cp (v:=(iV (g))) rfl) ?_
 refine l_v (Cp (v:=v8_0) rfl) ?_
 refine l_v (Cp (v:=(iV (0))) rfl) ?_
 refine Arx rfl rfl k6 fun K9 k9=>?_
 refine Arw (Ax Ln rfl r2) fun v10 r10=>?_
 refine Arv (Cm (vs:=[v10]) (L6s h0 r10 hnr) Tryz.func39 rfl rfl ⟨rfl,trivial⟩ fun w11 ρ11 σ11 hc11=>?_)
 obtain ⟨l11,s11,v11_0,w11e,r11_0⟩:=hc11
 replace s11:=s11.symm; subst s11 w11e
 replace r2:=At.mono l11 r2
 replace r8_0:=Asj l11 r8_0
 refine l_v (Ah (v:=(.tuple #[(iV (Akw m)),v11_0,(iV (0))])) rfl) ?_
 refine l_v (Bk (vs:=#[(iV (Akw m)),v11_0,(iV (0))]) rfl (v:=(iV (Akw m))) rfl) ?_
 refine l_v (Bk (vs:=#[(iV (Akw m)),v11_0,(iV (0))]) rfl (v:=v11_0) rfl) ?_
 refine l_v (Bk (vs:=#[(iV (Akw m)),v11_0,(iV (0))]) rfl (v:=(iV (0))) rfl) ?_
 refine l_v (Cp (v:=(iV (Akw m))) rfl) ?_
 refine l_v (Cp (v:=v11_0) rfl) ?_
 refine l_v (Cp (v:=(iV (0))) rfl) ?_
 refine Arx rfl rfl k9 fun K12 k12=>?_
 refine Arw (Ax Ln rfl r2) fun v13 r13=>?_
 refine l_v (Ah (v:=v8_0) rfl) ?_
 refine Arv (Bm (L6w h0 hgr r13 r8_0) Tryz.func65 rfl rfl ⟨rfl,rfl,trivial⟩ ?_)
 refine l_v (Ah (v:=(.tuple #[(iV (g)),(iV (0))])) rfl) ?_
 refine l_v (Bk (vs:=#[(iV (g)),(iV (0))]) rfl (v:=(iV (g))) rfl) ?_
 refine l_v (Bk (vs:=#[(iV (g)),(iV (0))]) rfl (v:=(iV (0))) rfl) ?_
 refine l_v (Cp (v:=(iV (g))) rfl) ?_
 refine l_v (Cp (v:=(iV (0))) rfl) ?_
 refine Arx rfl rfl k12 fun K14 k14=>?_
 refine l_v (Ah (v:=(iV (0))) rfl) ?_
 refine l_v (Ek rfl rfl) ?_
 refine l_v (Ah (v:=(.bool (true))) rfl) ?_
 refine l_M (iV (0)) (Ar rfl rfl rfl rfl) rfl ?_
 refine Aa (Ar rfl rfl rfl rfl) (Ek rfl rfl) ?_
 refine l_v (Bt rfl rfl (v:=(.bool (true))) rfl) ?_
 refine l_v (Ah (v:=(.bool (true))) rfl) ?_
 refine l_M (iV (0)) (Ar rfl rfl rfl rfl) rfl ?_
 refine Aa (Ar rfl rfl rfl rfl) (Ek rfl rfl) ?_
 refine l_v (Bt rfl rfl (v:=(.bool (true))) rfl) ?_
 refine l_v (Ah (v:=(.bool (true))) rfl) ?_
 refine l_M (iV (g)) (Ar rfl rfl rfl rfl) rfl ?_
 refine l_M (iV (g)) (Ar rfl rfl rfl rfl) rfl ?_
 refine Aa (Ar rfl rfl rfl rfl) (Ek rfl rfl) ?_
 refine l_v (Bt rfl rfl (v:=(.bool (g == g))) rfl) ?_
 refine l_v (Ah (v:=(.bool (g == g))) rfl) ?_
 refine l_M (iV (g)) (Ar rfl rfl rfl (by simp)) rfl ?_
 refine l_M (iV (g)) (Ar rfl rfl rfl (by simp)) rfl ?_
 refine Aa (Ar rfl rfl rfl (by simp)) (Ek rfl rfl) ?_
 refine l_v (Bt rfl (by simp) (v:=(.bool (g == g))) rfl) ?_
 refine l_v (Ah (v:=(.bool (g == g))) rfl) ?_
 refine l_M (iV (Akw m)) (Ar rfl rfl rfl (by simp)) rfl ?_
 refine Aa (Ar rfl rfl rfl (by simp)) (Gl rfl rfl) ?_
 refine l_M (iV (g)) (Ar rfl rfl rfl (by simp)) rfl ?_
 refine Aa (Ar rfl rfl rfl (by simp)) (Gl rfl rfl) ?_
 refine Aa (Ar rfl rfl rfl (by simp)) (L9w Tryz.underlying4 (p:=decide (Akw m > 0)) (q:=decide (g > 0)) rfl rfl) ?_
 refine l_v (Bt rfl (by simp) (v:=(.bool ((decide (Akw m > 0)) == (decide (g > 0))))) rfl) ?_
 refine l_v (Cp (v:=(.bool ((decide (Akw m > 0)) == (decide (g > 0))))) rfl) ?_
 refine l_k k14 ?_
 refine Aq ?_
 refine hret _ _ _ ?_
 refine ⟨(Asi (Asi l2 l8) l11),rfl,rfl.trans ?_⟩
 show Value.bool _ = _
 rw [L8b h0 hgr]
set_option maxHeartbeats 4000000 in
set_option maxRecDepth 100000 in
theorem L6u  {ρ:Ro} {σ:Own} {d:Drying} {picks:List UH} {vd vk:Value} (hg:Glob ρ) (hnr:Jp σ) (rd:Val ρ vd d) (rk:Val ρ vk picks):Agd (CX true (Ade Tryz.prog)) 4 4 [vd,vk] ρ σ (fun w ρ' σ'=>ρ' = ρ∧σ' = σ∧w = (.bool (true))):=by
 refine body_fn (n:=99) Tryz.func4 rfl rfl rfl rfl fun Q hret hnor=>?_
 refine w_q rfl rfl fun K1 k1=>?_
 refine Arv (Eb (v:=vd) rfl fun k2=>?_)
 refine Bb (a:=d) rd fun ρ2 l2 r2=>?_
 replace rk:=Asj l2 rk
 replace hg:=Glob.mono l2 hg
 refine l_v (Cp (v:=(.bool (false))) rfl) ?_
 refine Ary rfl rfl k1 fun K3 K4 k3 k4=>?_
 refine Arw (Ax L0t rfl r2) fun v5 r5=>?_
 refine Arv (Cm (vs:=[v5]) (L7h r5) Tryz.func16 rfl rfl ⟨rfl,trivial⟩ fun w6 ρ6 σ6 hc6=>?_)
 obtain ⟨hr6,hs6,b6_,hw6⟩:=hc6
 replace hr6:=hr6.symm; replace hs6:=hs6.symm; subst hr6 hs6 hw6
 refine l_v (Ah (v:=(.bool (b6_))) rfl) ?_
 refine Cn (b6_) (fun b7=>?_) (fun b7=>?_)
 ·refine Ap (Bl rfl rfl rfl b7) ?_
  refine Ap (Bl rfl rfl rfl b7) ?_
  refine Ap (Bl rfl rfl rfl b7) ?_
  refine l_v (Bt rfl b7 (v:=(.bool (true))) rfl) ?_
  refine l_k k4 ?_
  refine Co rfl rfl ?_
  refine w_q rfl rfl fun K8 k8=>?_
  refine Arv (Bm (c_tells hg hnr) Tryz.func9 rfl rfl trivial ?_)
  refine l_v (Cp (v:=(.bool (true))) rfl) ?_
  refine l_k k8 ?_
  refine Aj (Asf l2) ?_
  refine Aq ?_
  refine hret _ _ _ ⟨rfl,rfl,Eq.trans (b:=(.bool (true))) rfl ?_⟩
  rfl
 refine Ak (Ar rfl rfl rfl b7) (Ax L0t rfl r2) fun v9 r9=>?_
 refine Ae (Ar rfl rfl rfl b7) (Bm (L7f r9) Tryz.func17 rfl rfl ⟨rfl,trivial⟩ ?_)
 refine Aa (Ar rfl rfl rfl b7) (Dg rfl rfl) ?_
 refine l_v (Bn rfl b7 (v:=(.bool (L0v d != 0))) rfl) ?_
 refine l_k k4 ?_
 refine As (t:=L0v d != 0) rfl (fun b10=>?_) (fun b10=>?_)
 ·have q10:=Ls b10
  refine w_q rfl rfl fun K11 k11=>?_
  refine Arv (Bm (c_tells hg hnr) Tryz.func9 rfl rfl trivial ?_)
  refine l_v (Cp (v:=(.bool (true))) rfl) ?_
  refine l_k k11 ?_
  refine Aj (Asf l2) ?_
  refine Aq ?_
  refine hret _ _ _ ⟨rfl,rfl,Eq.trans (b:=(.bool (true))) rfl ?_⟩
  rfl
 have hd:=Jh b10
 have ok:=L3i hd
 have hp:=L9c (picks:=picks) ok
 have ha:=L9j (picks:=picks) ok
 have hst:=ok.start
 have hn5:=ok.n5
 have hn4:=ok.n4
 have hpl:=(L1z hp).1
 have q10:=Jh b10
 refine Al ?_
 apply k3
 refine w_q rfl rfl fun K12 k12=>?_
 refine Arw (Ax L0t rfl r2) fun v13 r13=>?_
 refine l_v (Ah (v:=vk) rfl) ?_
 refine Arv (Cm (vs:=[v13,vk]) (L8o r13 rk ok) Tryz.func18 rfl rfl ⟨rfl,rfl,trivial⟩ fun v14 ρ14 σ14 hc14=>?_)
 obtain ⟨l14,s14,r14⟩:=hc14
 replace s14:=s14.symm; subst s14
 replace rk:=Asj l14 rk
 replace hg:=Glob.mono l14 hg
 replace r2:=At.mono l14 r2
 refine l_v (Cp (v:=v14) rfl) ?_
 refine Arx rfl rfl k12 fun K15 k15=>?_
 refine Arw (Ax L0t rfl r2) fun v16 r16=>?_
 refine l_v (Ah (v:=v14) rfl) ?_
 refine Arv (Cm (vs:=[v16,v14]) (L8p (air:=L1y d picks d.steps.length) r16 r14 hd hp ha) Tryz.func19 rfl rfl ⟨rfl,rfl,trivial⟩ fun w17 ρ17 σ17 hc17=>?_)
 obtain ⟨hr17,hs17,v17,u17,a,b,c,e,hw17,rv17,ru17,hq1,hq2,hq3,hq4⟩:=hc17
 replace hr17:=hr17.symm; replace hs17:=hs17.symm; subst hr17 hs17 hw17
 rw [hpl] at hq3 hq4
 refine l_v (Ah (v:=(.tuple #[v17,u17,(iV (0))])) rfl) ?_
 refine l_v (Bk (vs:=#[v17,u17,(iV (0))]) rfl (v:=v17) rfl) ?_
 refine l_v (Bk (vs:=#[v17,u17,(iV (0))]) rfl (v:=u17) rfl) ?_
 refine l_v (Bk (vs:=#[v17,u17,(iV (0))]) rfl (v:=(iV (0))) rfl) ?_
 refine Arv (Ct Aak fun k18=>?_)
 refine Arv (Ct Aak fun k19=>?_)
 refine Bj (Asg Arz) ?_
 refine Cx rfl (Dv (v:=v17) (a:=(⟨a,b⟩:Span)) (c:=Arm) Mx rfl rfl rv17 rfl ?_)
 refine Bb (a:=(⟨a,b⟩:Span)) rv17 fun ρ20 l20 r20=>?_
 replace rk:=Asj l20 rk
 replace hg:=Glob.mono l20 hg
 replace r2:=At.mono l20 r2
 replace r14:=Asj l20 r14
 replace ru17:=Asj l20 ru17
 refine Cx rfl (Dv (v:=u17) (a:=(⟨c,e⟩:Span)) (c:=Arm) Mx rfl rfl ru17 rfl ?_)
 refine Bb (a:=(⟨c,e⟩:Span)) ru17 fun ρ21 l21 r21=>?_
 replace rk:=Asj l21 rk
 replace hg:=Glob.mono l21 hg
 replace r2:=At.mono l21 r2
 replace r14:=Asj l21 r14
 replace r20:=At.mono l21 r20
 refine l_v (Cp (v:=(iV (0))) rfl) ?_
 refine Asa k15 fun K22 k22=>?_
 refine Dc [0,1,2,3,4,5,6,7,8,9,10] (by kernel_rfl) rfl rfl ?_
 refine Cd (i:=0) [o1,o0,o0,o0,o0,o0,o0,o0,o0,o0,o0] rfl (by kernel_rfl) rfl Ash rfl (Ax L0t rfl r2) fun v23 r23=>?_
 refine Bd (i:=1) [o1,o1,o0,o0,o0,o0,o0,o0,o0,o0,o0] rfl (by kernel_rfl) rfl Ash rfl (Ah (v:=v14) rfl) ?_
 refine Cd (i:=2) [o1,o1,o1,o0,o0,o0,o0,o0,o0,o0,o0] rfl (by kernel_rfl) rfl Ash rfl (Ax L0t rfl r2) fun v24 r24=>?_
 refine Bg (i:=3) [o1,o1,o1,o1,o0,o0,o0,o0,o0,o0,o0] rfl (by kernel_rfl) rfl Ash rfl (Ah (v:=vk) rfl) ?_
 refine Dj (i:=4) [o1,o1,o1,o1,o1,o0,o0,o0,o0,o0,o0] rfl (by kernel_rfl) rfl rfl (Cm (vs:=[v24,vk]) (L9m r24 rk ok) Tryz.func21 rfl rfl ⟨rfl,rfl,trivial⟩ fun v25 ρ25 σ25 hc25=>?_)
 obtain ⟨l25,s25,r25⟩:=hc25
 replace s25:=s25.symm; subst s25
 replace hg:=Glob.mono l25 hg
 replace r2:=At.mono l25 r2
 replace r14:=Asj l25 r14
 replace r20:=At.mono l25 r20
 replace r23:=Asj l25 r23
 refine ⟨l25,?_⟩
 refine Dj (i:=5) Aop rfl (by kernel_rfl) rfl rfl (Cm (vs:=[v23,v14,v25]) (L7g r23 r14 r25 hd hp ha) Tryz.func20 rfl rfl ⟨rfl,rfl,rfl,trivial⟩ fun w26 ρ26 σ26 hc26=>?_)
 obtain ⟨l26,s26,v26_0,w26e,r26_0⟩:=hc26
 replace s26:=s26.symm; subst s26 w26e
 replace hg:=Glob.mono l26 hg
 replace r2:=At.mono l26 r2
 replace r20:=At.mono l26 r20
 refine ⟨(Asi l25 l26),?_⟩
 refine Bg (i:=6) zZ2 rfl (by kernel_rfl) rfl (Asi l25 l26) rfl (Ah (v:=(.tuple #[v26_0,(iV (0))])) rfl) ?_
 refine Pm (by kernel_rfl) (Asi l25 l26) Ash ?_
 refine Bd (i:=7) zZ3 rfl (by kernel_rfl) rfl Ash rfl (Bk (vs:=#[v26_0,(iV (0))]) rfl (v:=v26_0) rfl) ?_
 refine Bd (i:=8) zZ4 rfl (by kernel_rfl) rfl Ash rfl (Bk (vs:=#[v26_0,(iV (0))]) rfl (v:=(iV (0))) rfl) ?_
 refine Bg (i:=9) zZ5 rfl (by kernel_rfl) rfl Ash rfl (Cp (v:=v26_0) rfl) ?_
 refine Bg (i:=10) zZ6 rfl (by kernel_rfl) rfl Ash rfl (Cp (v:=(iV (0))) rfl) ?_
 refine Ec rfl ?_
 apply k22
 refine Asb rfl rfl fun K27 K28 k27 k28=>?_
 refine l_v (Ah (v:=(iV (0))) rfl) ?_
 refine l_v (Dg rfl rfl) ?_
 refine l_v (Ah (v:=(.bool (false))) rfl) ?_
 refine l_M (iV (0)) (Ar rfl rfl rfl rfl) rfl ?_
 refine Aa (Ar rfl rfl rfl rfl) (Dg rfl rfl) ?_
 refine l_v (Bn rfl rfl (v:=(.bool (false))) rfl) ?_
 refine l_v (Ah (v:=(.bool (false))) rfl) ?_
 refine l_M v26_0 (Ar rfl rfl rfl rfl) rfl ?_
 have g29:=Val.len r26_0
 refine Aa (Ar rfl rfl rfl rfl) (Ci (el:=56) Tryz.underlying65 rfl r26_0) ?_
 refine Ak (Ar rfl rfl rfl rfl) (Ay Drying.f_steps Tryz.underlying59 rfl rfl L0p (by decide) rfl r2) fun v30 r30=>?_
 refine Ak (Ar rfl rfl rfl rfl) (Ax L0p rfl r30) fun v31 r31=>?_
 have g32:=Val.len r31
 refine Aa (Ar rfl rfl rfl rfl) (Ci (el:=155) Tryz.underlying57 rfl r31) ?_
 refine Aa (Ar rfl rfl rfl rfl) (Dg rfl rfl) ?_
 refine l_v (Bn rfl rfl (v:=(.bool ((((L1i d (L0y d picks d.steps.length) (L1y d picks d.steps.length) d.steps.length).length:Nat):Int) != ((d.steps.length:Nat):Int)))) rfl) ?_
 refine l_k k28 ?_
 refine Cg rfl (by simp [L1i]) ?_
 refine Al ?_
 apply k27
 refine w_q rfl rfl fun K33 k33=>?_
 refine Arw (Ay Drying.f_start Tryz.underlying59 rfl rfl L0o (by decide) rfl r2) fun v34 r34=>?_
 refine Arw (Ay DryState.f_water Tryz.underlying56 rfl rfl ty3 (by decide) rfl r34) fun v35 r35=>?_
 have ⟨g36a,g36b⟩:=At.rng r35
 refine l_v (Bc ty3 rfl r35) ?_
 refine l_v (Cp (v:=(iV (d.start.water))) rfl) ?_
 refine Asa k33 fun K37 k37=>?_
 have kj37:∀ (lw:Int) (ee:Env),(ee 2 = (.pointer (some ⟨k2,0,none⟩)))∧(ee 6 = (.pointer (some ⟨k18,0,none⟩)))∧(ee 11 = (iV (lw)))∧(a ≤ d.start.water - lw∧d.start.water - lw ≤ b)∧True→K37 ee ([]) ρ26 σ:=by
  rintro lw e37 ⟨h37_2,h37_6,h37_11,p37_0,_⟩
  obtain ⟨hl3,hl4⟩:=p37_0
  apply k37
  refine w_q rfl rfl fun K38 k38=>?_
  refine Arw (Ay Drying.f_start Tryz.underlying59 rfl rfl L0o (by decide) h37_2 r2) fun v39 r39=>?_
  refine Arw (Ay DryState.f_water Tryz.underlying56 rfl rfl ty3 (by decide) rfl r39) fun v40 r40=>?_
  have ⟨g41a,g41b⟩:=At.rng r40
  refine l_v (Bc ty3 rfl r40) ?_
  refine Arw (Ay Span.f_high Tryz.underlying41 rfl rfl ty3 (by decide) h37_6 r20) fun v42 r42=>?_
  have ⟨g43a,g43b⟩:=At.rng r42
  refine l_v (Bc ty3 rfl r42) ?_
  refine l_v (Ou rfl rfl (z:=(d.start.water - b)) (Bo (by rfl) (by omega) (by omega))) ?_
  refine Arw (Ay Drying.f_start Tryz.underlying59 rfl rfl L0o (by decide) h37_2 r2) fun v44 r44=>?_
  refine Arw (Ay DryState.f_water Tryz.underlying56 rfl rfl ty3 (by decide) rfl r44) fun v45 r45=>?_
  have ⟨g46a,g46b⟩:=At.rng r45
  refine l_v (Bc ty3 rfl r45) ?_
  refine Arw (Ay Span.f_low Tryz.underlying41 rfl rfl ty3 (by decide) h37_6 r20) fun v47 r47=>?_
  have ⟨g48a,g48b⟩:=At.rng r47
  refine l_v (Bc ty3 rfl r47) ?_
  refine l_v (Ou rfl rfl (z:=(d.start.water - a)) (Bo (by rfl) (by omega) (by omega))) ?_
  refine Arv (Cm (vs:=[(iV ((d.start.water - b))),(iV ((d.start.water - a)))]) (Hy (a:=(d.start.water - b)) (b:=(d.start.water - a)) (by constructor <;> omega) (by constructor <;> omega)) Tryz.func11 rfl rfl ⟨rfl,rfl,trivial⟩ fun v49 ρ49 σ49 hc49=>?_)
  obtain ⟨l49,s49,r49⟩:=hc49
  replace s49:=s49.symm; subst s49
  replace hg:=Glob.mono l49 hg
  replace r2:=At.mono l49 r2
  replace r20:=At.mono l49 r20
  refine Arv (Ct Aak fun k50=>?_)
  refine Cx rfl (Dv (v:=v49) (a:=(⟨(d.start.water - b),(d.start.water - a)⟩:Span)) (c:=Arm) Mx rfl rfl r49 rfl ?_)
  refine Bb (a:=(⟨(d.start.water - b),(d.start.water - a)⟩:Span)) r49 fun ρ51 l51 r51=>?_
  replace hg:=Glob.mono l51 hg
  replace r2:=At.mono l51 r2
  replace r20:=At.mono l51 r20
  refine Asa k38 fun K52 k52=>?_
  refine Dc [0,1,2,3,4,5,6,7,8,9,10,11,12,13,14,15,16,17,18,19] (by kernel_rfl) rfl rfl ?_
  refine Cd (i:=0) [o1,o0,o0,o0,o0,o0,o0,o0,o0,o0,o0,o0,o0,o0,o0,o0,o0,o0,o0,o0] rfl (by kernel_rfl) rfl Ash rfl (Ax Mx rfl r51) fun v53 r53=>?_
  refine Bg (i:=1) [o1,o1,o0,o0,o0,o0,o0,o0,o0,o0,o0,o0,o0,o0,o0,o0,o0,o0,o0,o0] rfl (by kernel_rfl) rfl Ash rfl (Ah (v:=(iV (lw))) h37_11) ?_
  refine Dj (i:=2) [o1,o1,o1,o0,o0,o0,o0,o0,o0,o0,o0,o0,o0,o0,o0,o0,o0,o0,o0,o0] rfl (by kernel_rfl) rfl rfl (Bi (α:=Int) (xs:=[lw]) (vs:=[(iV (lw))]) Tryz.underlying49 ty3 zr3 rfl (by decide) (Dk (os:=[.tmp 81]) ⟨rfl,trivial⟩) ⟨(Cv.2 ⟨rfl,by constructor <;> omega⟩),trivial⟩ rfl (by decide) fun k54 cs54 R54=>⟨Ash,?_⟩)
  have G54:Grow ρ51 3 (.slice (some ⟨k54,0,none⟩) 1 1) ([lw]:List Int) [(k54,oC cs54.toArray 3)]:=Bs R54 rfl (by decide)
  refine Lr G54 fun ρ55 l55 r55=>?_
  replace hg:=Glob.mono l55 hg
  replace r2:=At.mono l55 r2
  replace r20:=At.mono l55 r20
  replace r51:=At.mono l55 r51
  replace r53:=Asj l55 r53
  refine Dj (i:=3) [o1,o1,o1,o1,o0,o0,o0,o0,o0,o0,o0,o0,o0,o0,o0,o0,o0,o0,o0,o0] rfl (by kernel_rfl) rfl rfl (Cm (vs:=[v53,(.slice (some ⟨k54,0,none⟩) 1 1)]) (L6i r53 r55 (by simp)) Tryz.func23 rfl rfl ⟨rfl,rfl,trivial⟩ fun v56 ρ56 σ56 hc56=>?_)
  obtain ⟨l56,s56,r56⟩:=hc56
  replace s56:=s56.symm; subst s56
  replace hg:=Glob.mono l56 hg
  replace r2:=At.mono l56 r2
  replace r20:=At.mono l56 r20
  replace r51:=At.mono l56 r51
  refine ⟨(Asi l55 l56),?_⟩
  have hm57:Cf (L0h ((⟨(d.start.water - b),(d.start.water - a)⟩:Span)) (([lw]:List Int))) = 0:=L1w (by simp only; omega) (by simp) (fun g hg=>by rw [List.mem_singleton.1 hg]; omega)
  have hx57:Ahr (L0h ((⟨(d.start.water - b),(d.start.water - a)⟩:Span)) (([lw]:List Int))) = 0:=by rw [L4e (by simp only; omega) (by omega)]; simp only; omega
  refine Dj (i:=4) [o1,o1,o1,o1,o1,o0,o0,o0,o0,o0,o0,o0,o0,o0,o0,o0,o0,o0,o0,o0] rfl (by kernel_rfl) rfl rfl (Cm (vs:=[v56,(iV (0))]) (L7n hnr r56 hm57 hx57) Tryz.func22 rfl rfl ⟨rfl,rfl,trivial⟩ fun w58 ρ58 σ58 hc58=>?_)
  obtain ⟨l58,s58,hw58⟩:=hc58
  replace s58:=s58.symm; subst s58 hw58
  replace hg:=Glob.mono l58 hg
  replace r2:=At.mono l58 r2
  replace r20:=At.mono l58 r20
  replace r51:=At.mono l58 r51
  refine ⟨(Asi (Asi l55 l56) l58),?_⟩
  refine Bg (i:=5) [o1,o1,o1,o1,o1,o1,o0,o0,o0,o0,o0,o0,o0,o0,o0,o0,o0,o0,o0,o0] rfl (by kernel_rfl) rfl (Asi (Asi l55 l56) l58) rfl (Ah (v:=(.bool (true))) rfl) ?_
  refine Pm (by kernel_rfl) (Asi (Asi l55 l56) l58) Ash ?_
  refine Cd (i:=6) [o1,o1,o1,o1,o1,o1,o1,o0,o0,o0,o0,o0,o0,o0,o0,o0,o0,o0,o0,o0] rfl (by kernel_rfl) rfl Ash (Ar rfl rfl rfl rfl) (Ax Mx rfl r51) fun v59 r59=>?_
  refine Cd (i:=7) [o1,o1,o1,o1,o1,o1,o1,o1,o0,o0,o0,o0,o0,o0,o0,o0,o0,o0,o0,o0] rfl (by kernel_rfl) rfl Ash (Ar rfl rfl rfl rfl) (Ay Drying.f_start Tryz.underlying59 rfl rfl L0o (by decide) h37_2 r2) fun v60 r60=>?_
  refine Cd (i:=8) [o1,o1,o1,o1,o1,o1,o1,o1,o1,o0,o0,o0,o0,o0,o0,o0,o0,o0,o0,o0] rfl (by kernel_rfl) rfl Ash (Ar rfl rfl rfl rfl) (Ay DryState.f_water Tryz.underlying56 rfl rfl ty3 (by decide) rfl r60) fun v61 r61=>?_
  have ⟨g62a,g62b⟩:=At.rng r61
  refine Bd (i:=9) [o1,o1,o1,o1,o1,o1,o1,o1,o1,o1,o0,o0,o0,o0,o0,o0,o0,o0,o0,o0] rfl (by kernel_rfl) rfl Ash (Ar rfl rfl rfl rfl) (Bc ty3 rfl r61) ?_
  refine Cd (i:=12) [o1,o1,o1,o1,o1,o1,o1,o1,o1,o1,o0,o0,o1,o0,o0,o0,o0,o0,o0,o0] rfl (by kernel_rfl) rfl Ash (Ar rfl rfl rfl rfl) (Ay Span.f_low Tryz.underlying41 rfl rfl ty3 (by decide) h37_6 r20) fun v63 r63=>?_
  have ⟨g64a,g64b⟩:=At.rng r63
  refine Bd (i:=13) [o1,o1,o1,o1,o1,o1,o1,o1,o1,o1,o0,o0,o1,o1,o0,o0,o0,o0,o0,o0] rfl (by kernel_rfl) rfl Ash (Ar rfl rfl rfl rfl) (Bc ty3 rfl r63) ?_
  refine Dj (i:=10) [o1,o1,o1,o1,o1,o1,o1,o1,o1,o1,o1,o0,o1,o1,o0,o0,o0,o0,o0,o0] rfl (by kernel_rfl) rfl (Ar rfl rfl rfl rfl) (Bi (α:=Int) (xs:=[d.start.water]) (vs:=[(iV (d.start.water))]) Tryz.underlying49 ty3 zr3 rfl (by decide) (Dk (os:=[.tmp 89]) ⟨rfl,trivial⟩) ⟨(Cv.2 ⟨rfl,by constructor <;> omega⟩),trivial⟩ rfl (by decide) fun k65 cs65 R65=>⟨Ash,?_⟩)
  have G65:Grow ρ58 3 (.slice (some ⟨k65,0,none⟩) 1 1) ([d.start.water]:List Int) [(k65,oC cs65.toArray 3)]:=Bs R65 rfl (by decide)
  refine Lr G65 fun ρ66 l66 r66=>?_
  replace hg:=Glob.mono l66 hg
  replace r59:=Asj l66 r59
  refine Dj (i:=11) [o1,o1,o1,o1,o1,o1,o1,o1,o1,o1,o1,o1,o1,o1,o0,o0,o0,o0,o0,o0] rfl (by kernel_rfl) rfl (Ar rfl rfl rfl rfl) (Cm (vs:=[v59,(.slice (some ⟨k65,0,none⟩) 1 1)]) (L6i r59 r66 (by simp)) Tryz.func23 rfl rfl ⟨rfl,rfl,trivial⟩ fun v67 ρ67 σ67 hc67=>?_)
  obtain ⟨l67,s67,r67⟩:=hc67
  replace s67:=s67.symm; subst s67
  replace hg:=Glob.mono l67 hg
  refine ⟨(Asi l66 l67),?_⟩
  have hm68:Cf (L0h ((⟨(d.start.water - b),(d.start.water - a)⟩:Span)) (([d.start.water]:List Int))) = 0:=L1w (by simp only; omega) (by simp) (fun g hg=>by rw [List.mem_singleton.1 hg]; omega)
  have hx68:Ahr (L0h ((⟨(d.start.water - b),(d.start.water - a)⟩:Span)) (([d.start.water]:List Int))) = a:=by rw [L4e (by simp only; omega) (by omega)]; simp only; omega
  refine Dj (i:=14) [o1,o1,o1,o1,o1,o1,o1,o1,o1,o1,o1,o1,o1,o1,o1,o0,o0,o0,o0,o0] rfl (by kernel_rfl) rfl (Ar rfl rfl rfl rfl) (Cm (vs:=[v67,(iV (a))]) (L7n hnr r67 hm68 hx68) Tryz.func22 rfl rfl ⟨rfl,rfl,trivial⟩ fun w69 ρ69 σ69 hc69=>?_)
  obtain ⟨l69,s69,hw69⟩:=hc69
  replace s69:=s69.symm; subst s69 hw69
  replace hg:=Glob.mono l69 hg
  refine ⟨(Asi (Asi l66 l67) l69),?_⟩
  refine Bg (i:=15) [o1,o1,o1,o1,o1,o1,o1,o1,o1,o1,o1,o1,o1,o1,o1,o1,o0,o0,o0,o0] rfl (by kernel_rfl) rfl (Asi (Asi l66 l67) l69) rfl (Bt rfl rfl (v:=(.bool (true))) rfl) ?_
  refine Bg (i:=16) [o1,o1,o1,o1,o1,o1,o1,o1,o1,o1,o1,o1,o1,o1,o1,o1,o1,o0,o0,o0] rfl (by kernel_rfl) rfl (Asi (Asi l66 l67) l69) rfl (Ah (v:=(.bool (true))) rfl) ?_
  refine Dj (i:=17) [o1,o1,o1,o1,o1,o1,o1,o1,o1,o1,o1,o1,o1,o1,o1,o1,o1,o1,o0,o0] rfl (by kernel_rfl) rfl (Ar rfl rfl rfl rfl) (Bm (c_tells hg hnr) Tryz.func9 rfl rfl trivial ⟨(Asi (Asi l66 l67) l69),?_⟩)
  refine Bg (i:=18) [o1,o1,o1,o1,o1,o1,o1,o1,o1,o1,o1,o1,o1,o1,o1,o1,o1,o1,o1,o0] rfl (by kernel_rfl) rfl (Asi (Asi l66 l67) l69) rfl (Bt rfl rfl (v:=(.bool (true))) rfl) ?_
  refine Bg (i:=19) [o1,o1,o1,o1,o1,o1,o1,o1,o1,o1,o1,o1,o1,o1,o1,o1,o1,o1,o1,o1] rfl (by kernel_rfl) rfl (Asi (Asi l66 l67) l69) rfl (Cp (v:=(.bool (true))) rfl) ?_
  refine Ec rfl ?_
  apply k52
  refine Aj (Asf (Asi (Asi (Asi (Asi (Asi (Asi (Asi (Asi (Asi (Asi (Asi (Asi (Asi l2 l14) l20) l21) l25) l26) l49) l51) l55) l56) l58) l66) l67) l69)) ?_
  refine Aq ?_
  refine hret _ _ _ ⟨rfl,rfl,Eq.trans (b:=(.bool (true))) rfl ?_⟩
  rfl
 refine w_q rfl rfl fun K70 k70=>?_
 refine l_v (Ah (v:=v26_0) rfl) ?_
 have g71:=Val.len r26_0
 refine l_v (Ci (el:=56) Tryz.underlying65 rfl r26_0) ?_
 refine l_v (Gl rfl rfl) ?_
 refine l_k k70 ?_
 refine As (t:=decide ((((L1i d (L0y d picks d.steps.length) (L1y d picks d.steps.length) d.steps.length).length:Nat):Int) > 0)) rfl (fun b72=>?_) (fun b72=>?_)
 ·have q72:=of_decide_eq_true b72
  refine Ag rfl rfl ?_
  refine l_v (Ah (v:=v26_0) rfl) ?_
  refine l_v (Ah (v:=v26_0) rfl) ?_
  have g73:=Val.len r26_0
  refine l_v (Ci (el:=56) Tryz.underlying65 rfl r26_0) ?_
  refine l_v (Ou rfl rfl (z:=((((L1i d (L0y d picks d.steps.length) (L1y d picks d.steps.length) d.steps.length).length:Nat):Int) - 1)) (Bo (by first | rfl | omega | (push_cast; rfl)) (by omega) (by omega))) ?_
  obtain ⟨a75,ha75⟩:=Ed (xs:=L1i d (L0y d picks d.steps.length) (L1y d picks d.steps.length) d.steps.length) (i:=(((((L1i d (L0y d picks d.steps.length) (L1y d picks d.steps.length) d.steps.length).length:Nat):Int) - 1)).toNat) (by omega)
  have hra:=L7b ha75 (by simp only [L1i,List.length_map,List.length_range] at *; omega)
  rw [← hra] at hq3 hq4
  refine Arw (Ch ((((((L1i d (L0y d picks d.steps.length) (L1y d picks d.steps.length) d.steps.length).length:Nat):Int) - 1)).toNat) Tryz.underlying65 L0o rfl r26_0 (q:=((((L1i d (L0y d picks d.steps.length) (L1y d picks d.steps.length) d.steps.length).length:Nat):Int) - 1)) rfl (by omega) ha75) fun v74 r74=>?_
  refine Arw (Ay DryState.f_water Tryz.underlying56 rfl rfl ty3 (by decide) rfl r74) fun v76 r76=>?_
  have ⟨g77a,g77b⟩:=At.rng r76
  refine l_v (Bc ty3 rfl r76) ?_
  refine l_v (Cp (v:=(iV (a75.water))) rfl) ?_
  apply Ac
  refine kj37 (a75.water) _ ?_
  exact ⟨rfl,rfl,rfl,⟨hq3,hq4⟩,trivial⟩
 have q72:=of_decide_eq_false b72
 refine Al ?_
 refine kj37 (d.start.water) _ ?_
 exact ⟨rfl,rfl,rfl,(by have hz0:d.steps.length = 0:=(by simp only [L1i,List.length_map,List.length_range] at *; omega); rw [hz0] at hq3 hq4; exact ⟨hq3,hq4⟩),trivial⟩
end Go.Proofs.YtphgjjmlnkgghaaGreatDoor

namespace Go.Proofs.YtphgjjmlnkgghaaGreatDoor
open Go Go.WideShapes
theorem L8w:Api DryHeat 152:=⟨by kernel_rfl,fun H enc W fuel cs x h hw=>by
  obtain ⟨xs,n,_,rfl,hcl,hl,hf⟩:=DataW.trod_struct Tryz.underlying152 h
  rw [show Tryz.prog.cellsOf 152 = 2 from by kernel_rfl] at hcl
  obtain ⟨a0,r0⟩:=L0m (i:=0) Tryz.underlying152 hl hf hw rfl rfl (show _ = 0 from rfl) (L1f Tryz.underlying3 (by kernel_rfl))
  obtain ⟨a1,r1⟩:=L0m (i:=1) Tryz.underlying152 hl hf hw rfl rfl (show _ = 1 from rfl) (L1f Tryz.underlying3 (by kernel_rfl))
  refine ⟨⟨a0,a1⟩,?_⟩
  have e0:cs = cs.drop 0:=rfl
  rw [e0]
  exact ⟨(cs.drop 0).take 1,cs.drop 1,(L1l cs 0 1).trans (by rfl),r0,(show Dat.rep (roW W) (cs.drop 1) a1 from by (have:=r1; rw [List.take_of_length_le (by rw [List.length_drop,hcl]; decide)] at this; exact this))⟩⟩
theorem L8u:Api DryState 56:=⟨by kernel_rfl,fun H enc W fuel cs x h hw=>by
  obtain ⟨xs,n,_,rfl,hcl,hl,hf⟩:=DataW.trod_struct Tryz.underlying56 h
  rw [show Tryz.prog.cellsOf 56 = 3 from by kernel_rfl] at hcl
  obtain ⟨a0,r0⟩:=L0m (i:=0) Tryz.underlying56 hl hf hw rfl rfl (show _ = 0 from rfl) (L1f Tryz.underlying3 (by kernel_rfl))
  obtain ⟨a1,r1⟩:=L0m (i:=1) Tryz.underlying56 hl hf hw rfl rfl (show _ = 1 from rfl) (L1f Tryz.underlying3 (by kernel_rfl))
  obtain ⟨a2,r2⟩:=L0m (i:=2) Tryz.underlying56 hl hf hw rfl rfl (show _ = 2 from rfl) (L1f Tryz.underlying3 (by kernel_rfl))
  refine ⟨⟨a0,a1,a2⟩,?_⟩
  have e0:cs = cs.drop 0:=rfl
  rw [e0]
  exact ⟨(cs.drop 0).take 1,cs.drop 1,(L1l cs 0 1).trans (by rfl),r0,⟨(cs.drop 1).take 1,cs.drop 2,(L1l cs 1 1).trans (by rfl),r1,(show Dat.rep (roW W) (cs.drop 2) a2 from by (have:=r2; rw [List.take_of_length_le (by rw [List.length_drop,hcl]; decide)] at this; exact this))⟩⟩⟩
theorem L8x:Api DryStep 155:=⟨by kernel_rfl,fun H enc W fuel cs x h hw=>by
  obtain ⟨xs,n,_,rfl,hcl,hl,hf⟩:=DataW.trod_struct Tryz.underlying155 h
  rw [show Tryz.prog.cellsOf 155 = 6 from by kernel_rfl] at hcl
  obtain ⟨a0,r0⟩:=L0m (i:=0) Tryz.underlying155 hl hf hw rfl rfl (show _ = 0 from rfl) L9f
  obtain ⟨a1,r1⟩:=L0m (i:=1) Tryz.underlying155 hl hf hw rfl rfl (show _ = 2 from rfl) (L7r Tryz.underlying4 (by kernel_rfl))
  obtain ⟨a2,r2⟩:=L0m (i:=2) Tryz.underlying155 hl hf hw rfl rfl (show _ = 3 from rfl) L9f
  obtain ⟨a3,r3⟩:=L0m (i:=3) Tryz.underlying155 hl hf hw rfl rfl (show _ = 5 from rfl) (L1f Tryz.underlying3 (by kernel_rfl))
  refine ⟨⟨a0,a1,a2,a3⟩,?_⟩
  have e0:cs = cs.drop 0:=rfl
  rw [e0]
  exact ⟨(cs.drop 0).take 2,cs.drop 2,(L1l cs 0 2).trans (by rfl),r0,⟨(cs.drop 2).take 1,cs.drop 3,(L1l cs 2 1).trans (by rfl),r1,⟨(cs.drop 3).take 2,cs.drop 5,(L1l cs 3 2).trans (by rfl),r2,(show Dat.rep (roW W) (cs.drop 5) a3 from by (have:=r3; rw [List.take_of_length_le (by rw [List.length_drop,hcl]; decide)] at this; exact this))⟩⟩⟩⟩
theorem L8v:Api Drying 59:=⟨by kernel_rfl,fun H enc W fuel cs x h hw=>by
  obtain ⟨xs,n,_,rfl,hcl,hl,hf⟩:=DataW.trod_struct Tryz.underlying59 h
  rw [show Tryz.prog.cellsOf 59 = 7 from by kernel_rfl] at hcl
  obtain ⟨a0,r0⟩:=L0m (i:=0) Tryz.underlying59 hl hf hw rfl rfl (show _ = 0 from rfl) (L3h Tryz.underlying54 (by kernel_rfl) (Nat.le_of_ble_eq_true (by kernel_rfl)) (by decide) L8w)
  obtain ⟨a1,r1⟩:=L0m (i:=1) Tryz.underlying59 hl hf hw rfl rfl (show _ = 1 from rfl) (L1f Tryz.underlying3 (by kernel_rfl))
  obtain ⟨a2,r2⟩:=L0m (i:=2) Tryz.underlying59 hl hf hw rfl rfl (show _ = 2 from rfl) (L1f Tryz.underlying3 (by kernel_rfl))
  obtain ⟨a3,r3⟩:=L0m (i:=3) Tryz.underlying59 hl hf hw rfl rfl (show _ = 3 from rfl) L8u
  obtain ⟨a4,r4⟩:=L0m (i:=4) Tryz.underlying59 hl hf hw rfl rfl (show _ = 6 from rfl) (L3h Tryz.underlying57 (by kernel_rfl) (Nat.le_of_ble_eq_true (by kernel_rfl)) (by decide) L8x)
  refine ⟨⟨a0,a1,a2,a3,a4⟩,?_⟩
  have e0:cs = cs.drop 0:=rfl
  rw [e0]
  exact ⟨(cs.drop 0).take 1,cs.drop 1,(L1l cs 0 1).trans (by rfl),r0,⟨(cs.drop 1).take 1,cs.drop 2,(L1l cs 1 1).trans (by rfl),r1,⟨(cs.drop 2).take 1,cs.drop 3,(L1l cs 2 1).trans (by rfl),r2,⟨(cs.drop 3).take 3,cs.drop 6,(L1l cs 3 3).trans (by rfl),r3,(show Dat.rep (roW W) (cs.drop 6) a4 from by (have:=r4; rw [List.take_of_length_le (by rw [List.length_drop,hcl]; decide)] at this; exact this))⟩⟩⟩⟩⟩
end Go.Proofs.YtphgjjmlnkgghaaGreatDoor

namespace Go.Proofs.YtphgjjmlnkgghaaGreatDoor
set_option maxHeartbeats 1000000
open Go Go.WideShapes Go.ChangeShapes Go.RowKit Go.Conc
set_option maxRecDepth 100000
theorem L3j (os:Os) (started:os.Started) (H:Type) (enc:TypeId × Value→H):ReturnsInLeavingWide {} Tryz.checked os 4 .any (Apj H enc Rows.fakeWetSpec Tryz.f4) (Rows.fakeWetSpec.post enc Tryz.prog Tryz.f4 false true false false):=by
  refine law_lift (r:=4) os started H enc Tryz.func4 rfl rfl (by kernel_rfl) (by decide) (fun ds hd=>?_)
    (ChangeSpec.witness_shaped (enc:=enc) (C:=Tryz.checked) (os:=os) (X:=fun w _=>laidMetH Tryz.prog laidL w) false (World.doorLaid Tryz.prog 2000 os) #[.agg #[.slice none 0 0,.int .i64 0,.int .i64 0,.int .i64 0,.int .i64 0,.int .i64 0,.slice none 0 0],.slice none 0 0] 8 rfl (World.shaped_of_RefB (by kernel_rfl) (by kernel_rfl)) (by kernel_rfl) (by kernel_rfl) (by kernel_rfl) (door_met os _)) ?_
  · match ds,hd with
    | [d1,d2],_=>rfl
  · intro W args ds ps hv hA hw hg
    obtain ⟨hl1,hl2⟩:=Sb hA
    match args,hl1,ds,hl2,hA with
    | [v1,v2],_,[d1,d2],_,⟨p1,q1,h1,⟨p2,q2,h2,_,_⟩,_⟩ =>
      obtain ⟨b1,k1⟩:=hv 0 59 v1 rfl rfl
      obtain ⟨b2,k2⟩:=hv 1 27 v2 rfl rfl
      obtain ⟨x1,rx1⟩:=arg_struct L8v rfl Tryz.underlying59 k1 h1 (L3p hw (j:=0) rfl rfl)
      obtain ⟨x2,rx2⟩:=arg_slice (L3h Tryz.underlying27 (by kernel_rfl) (Nat.le_of_ble_eq_true (by kernel_rfl)) (by decide) (L9s Tryz.underlying75 (by kernel_rfl))) Tryz.underlying27 k2 h2 (L3p hw (j:=1) rfl rfl)
      exact L6u hg (fun c vs h=>by cases h) rx1 rx2
theorem L5e:Rows.FakeWetSaid :=
  OpenClaim.holds_of_wide_leaving 4 Tryz.f4 rfl rfl rfl rfl rfl rfl rfl ⟨rfl,rfl,rfl,rfl,rfl⟩ rfl rfl rfl rfl rfl (by kernel_rfl) Tryz.func4 (by kernel_rfl)
    (of_decide_eq_true (by kernel_rfl)) (by unfold Func.isWrapper; first | (rw [if_pos (by decide +kernel)]; kernel_rfl) | (rw [if_neg (by decide +kernel)]; exact ⟨rfl,rfl⟩))
    (fun os started H enc _=>L3j os started H enc)
theorem fakeWet_holds:Rows.FakeWetCardSaid :=
  tied_goes .later [.funcs,.data] true (true,"64c05d2246e4d379d7c851f58b7b5f5719ef82ed1ca4210b0e7462fe21a2bfab") false L5e (by kernel_rfl) fakeWet_row_tie rfl ⟨rfl,rfl⟩ (by kernel_rfl) rfl
    (fun f fn hf hfn=>by
      obtain rfl:f = 4:=Option.some.inj ((show Tryz.prog.funcNamed "crocus/crocuslaw08.FakeWet" = some 4 by kernel_rfl).symm.trans hf) |>.symm
      obtain rfl:fn = Tryz.f4:=(Option.some.inj (Tryz.func4.symm.trans hfn)).symm
      exact ⟨by kernel_rfl,fun j t ht=>by
        have h2:t = 59∨t = 27:=by
          match j,ht with
          | 0,h=>exact .inl (Option.some.inj h).symm
          | 1,h=>exact .inr ((Option.some.inj h).symm)
        rcases h2 with rfl | rfl
        · exact (show Tryz.prog.wantsStandIn 59 = false by kernel_rfl)
        · exact (show Tryz.prog.wantsStandIn 27 = false by kernel_rfl)⟩)
    (by kernel_rfl)
end Go.Proofs.YtphgjjmlnkgghaaGreatDoor
