/- Part 3 of what all laws of layer 8 need: a logic of programs that start goroutines, and what the functions yield. -/
import Derived.Test.YtphgjjmlnkgghaaGreatDoorB2
set_option linter.unusedVariables false
set_option linter.unusedSimpArgs false
namespace Go.Proofs.YtphgjjmlnkgghaaGreatDoor
open Go
theorem bitA {s i:Nat}:((((s >>> i) &&& 1:Nat):Int) == 1) = Cu s i:=by
  rw [← Arr]; congr 2
  rw [Nat.and_one_is_mod]
theorem bitA0 {s i:Nat}:((((s >>> i) &&& 1:Nat):Int) == 0) = !Cu s i:=by
  unfold Cu
  rw [Nat.and_one_is_mod]
  rcases Nat.mod_two_eq_zero_or_one (s >>> i) with h | h <;> rw [h] <;> rfl
theorem Aig {l:List Nat} {x:Nat}:Bf (l ++ [x]) = Bf l ||| 1 <<< x:=by unfold Bf; rw [List.foldl_append]; rfl
/-- The kinds that a test sees so. -/
def Qi (t:FTest) (b:Int) (k:Nat):Bool:=match t.sees[k]? with | some x=>x == b | none=>false
def Gk (t:FTest) (b:Int):Nat:=Bf ((List.range t.sees.length).filter (Qi t b))
abbrev Dr (t:FTest):Probe:=⟨t.errs,((Gk t 1:Nat):Int),((Gk t 0:Nat):Int)⟩
def Adm (t:FTest):Prop:=∀ (k:Nat) (b:Int),t.sees[k]? = some b→0 ≤ b∧b ≤ 2
theorem Rf {l:Lab} (h:Gh l = 0) {i:Nat} {t:FTest} (ht:l.tests[i]? = some t):Adm t∧t.sees.length = l.kinds.length:=by
  have ok:=Ll h
  refine ⟨fun k b hb=>?_,(ok.test i t ht).2⟩
  unfold Gh at h
  rw [Jx] at h
  obtain ⟨h1,h2⟩:=h
  unfold Jy at h2
  split at h2
  · split at h2
    · cases h2
    · rw [Fx] at h2
      have h3:=h2 i (List.getElem?_eq_some_iff.1 ht).1
      simp only [Hb,ht] at h3
      split at h3
      · split at h3
        · cases h3
        · split at h3
          · rw [Fx] at h3
            have h4:=h3 k (List.getElem?_eq_some_iff.1 hb).1
            simp only [Nk,hb] at h4
            split at h4
            · cases h4
            · rename_i hc
              simp only [Bool.or_eq_true,decide_eq_true_eq,not_or] at hc
              omega
          · cases h3
      · cases h3
  · cases h2
theorem Tj {n k:Nat} {p:Nat→Bool}:((List.range n).filter p).contains k = (decide (k < n) && p k):=by
  rw [List.contains_eq_mem,Bool.eq_iff_iff]
  simp [List.mem_filter]
theorem Wa {t:FTest} {b:Int} {k:Nat}:(Gk t b).testBit k = (match t.sees[k]? with | some x=>x == b | none=>false):=by
  unfold Gk
  rw [Ng,Tj]
  unfold Qi
  rcases Nat.lt_or_ge k t.sees.length with h | h
  · rw [decide_eq_true h,Bool.true_and]
  · rw [List.getElem?_eq_none h]; simp
theorem Qj {t:FTest} {b:Int} (h:t.sees.length ≤ 4):Gk t b < 16:=by
  have:Gk t b < 2 ^ 4:=Sl fun a ha=>by
    have:=List.mem_range.1 (List.mem_filter.1 ha).1; omega
  exact this
theorem Agl {s a:Nat}:((((s &&& a:Nat):Int) != 0) = true)↔∃ k,s.testBit k = true∧a.testBit k = true:=by
  constructor
  · intro h
    apply Classical.byContradiction
    intro hno
    have h0:s &&& a = 0:=by
      apply Nat.eq_of_testBit_eq
      intro i
      rw [Nat.testBit_and,Nat.zero_testBit]
      cases h1:s.testBit i with
      | false=>rfl
      | true =>
        cases h2:a.testBit i with
        | false=>rfl
        | true=>exact absurd ⟨i,h1,h2⟩ hno
    rw [h0] at h
    simp at h
  · rintro ⟨k,h1,h2⟩
    have:s &&& a ≠ 0:=fun h0=>by
      have:=Nat.testBit_and s a k
      rw [h0,h1,h2] at this
      simp at this
    simpa using this
/-- The program's way to ask whether a test can find something,or nothing. -/
def Pa (er:Bool) (a u s:Nat):Bool:=er || (((s &&& (a ||| u):Nat):Int) != 0)
def Qa (a s:Nat):Bool:=(((s &&& a:Nat):Int) == 0)
theorem Vr {t:FTest} {s:Nat} (hs:Adm t):Pa t.errs (Gk t 1) (Gk t 0) s = Aen t s true:=by
  unfold Pa Aen
  rw [if_pos rfl]
  congr 1
  rw [Bool.eq_iff_iff,Agl]
  simp only [List.any_eq_true,List.mem_range,Ajd,Bool.and_eq_true,Ez,Nat.testBit_or,Wa,Bool.or_eq_true]
  constructor
  · rintro ⟨k,h1,h2⟩
    cases hx:t.sees[k]? with
    | none=>rw [hx] at h2; simp at h2
    | some x =>
      rw [hx] at h2
      refine ⟨k,(List.getElem?_eq_some_iff.1 hx).1,h1,?_⟩
      simp only [hx,beq_iff_eq,bne_iff_ne,ne_eq] at h2 ⊢
      omega
  · rintro ⟨k,h1,h2,h3⟩
    refine ⟨k,h2,?_⟩
    cases hx:t.sees[k]? with
    | none=>rw [hx] at h3; simp at h3
    | some x =>
      have:=hs k x hx
      simp only [hx,beq_iff_eq,bne_iff_ne,ne_eq] at h3 ⊢
      omega
theorem Ty {t:FTest} {s:Nat}:Qa (Gk t 1) s = Aen t s false:=by
  unfold Qa Aen
  rw [if_neg (by simp)]
  have:(((s &&& Gk t 1:Nat):Int) == 0) = !(((s &&& Gk t 1:Nat):Int) != 0):=by
    cases h:(((s &&& Gk t 1:Nat):Int) == 0) <;> simp [bne,h]
  rw [this]
  congr 1
  rw [Bool.eq_iff_iff,Agl]
  simp only [List.any_eq_true,List.mem_range,Ajh,Bool.and_eq_true,Ez,Wa]
  constructor
  · rintro ⟨k,h1,h2⟩
    cases hx:t.sees[k]? with
    | none=>rw [hx] at h2; simp at h2
    | some x =>
      exact ⟨k,(List.getElem?_eq_some_iff.1 hx).1,h1,h2⟩
  · rintro ⟨k,h1,h2,h3⟩
    refine ⟨k,h2,?_⟩
    cases hx:t.sees[k]? with
    | none=>rw [hx] at h3; simp at h3
    | some x=>rw [hx] at h3; exact h3
theorem Xe {l:Lab} {r:Found} {t:FTest} {s:Nat} (ht:l.tests[r.test.toNat]? = some t):Px l r s = Aen t s r.found:=by unfold Px; rw [ht]
theorem filter_app {l:List Nat} {p:Nat→Bool} {x:Nat}:(l ++ [x]).filter p = l.filter p ++ (if p x then [x] else []):=by
  rw [List.filter_append]; congr 1; cases h:p x <;> simp [h]
theorem Gb {l:List Nat} {p:Nat→Bool} {x:Nat}:Bf ((l ++ [x]).filter p) = if p x then Bf (l.filter p) ||| 1 <<< x else Bf (l.filter p):=by
  rw [filter_app]
  cases p x
  · simp
  · rw [if_pos rfl,if_pos rfl,Aig]
theorem Akz {s k:Nat} (h:s >>> k = 0) (hk:k ≤ 16):Av s = (List.range k).filter (Cu s):=by
  unfold Av
  rw [show 16 = k + (16 - k) by omega,List.range_add,List.filter_append]
  have:((List.range (16 - k)).map (k + ·)).filter (Cu s) = []:=by
    rw [List.filter_eq_nil_iff]
    intro a ha
    obtain ⟨j,_,rfl⟩:=List.mem_map.1 ha
    unfold Cu
    rw [Nat.shiftRight_add,h]
    simp
  rw [this,List.append_nil]
theorem Yh {s k:Nat} (hk:k < 16) (hb:Cu s k = true):Av s = (List.range k).filter (Cu s) ++ k :: ((List.range' (k + 1) (15 - k)).filter (Cu s)):=by
  unfold Av
  have e1:List.range 16 = List.range k ++ k :: List.range' (k + 1) (15 - k):=by
    rw [List.range_eq_range',List.range_eq_range',show 16 = k + (1 + (15 - k)) by omega,← List.range'_append_1,← List.range'_append_1]
    simp
  rw [e1,List.filter_append,List.filter_cons,hb,if_pos rfl]
theorem Od {s k:Nat}:(List.range (k + 1)).filter (Cu s) = (List.range k).filter (Cu s) ++ (if Cu s k then [k] else []):=by
  rw [List.range_succ,List.filter_append]; congr 1; cases h:Cu s k <;> simp [h]
theorem Apy {s:Nat} (h:s < 65536):s >>> 16 = 0:=by rw [Nat.shiftRight_eq_div_pow]; omega
theorem k16 {s k:Nat} (hs:s < 65536) (h:k ≤ 16) (h2:((s >>> k:Nat):Int) > 0):k < 16:=by
  rcases Nat.lt_or_ge k 16 with h' | h'
  · exact h'
  · have:k = 16:=by omega
    subst this; rw [Apy hs] at h2; omega
theorem shz {s k:Nat} (h:¬ ((s >>> k:Nat):Int) > 0):s >>> k = 0:=by
  generalize s >>> k = z at h
  omega
theorem Adf {α β:Type} {f:α→β} {l:List α} {i:Nat} {y:β} (h:(l.map f)[i]? = some y):∃ x,l[i]? = some x∧y = f x:=by
  rw [List.getElem?_map] at h
  obtain ⟨x,hx,rfl⟩:=Option.map_eq_some_iff.1 h
  exact ⟨x,hx,rfl⟩
theorem Aja {k:Nat} (h:k < 16):1 ≤ 1 <<< k∧1 <<< k < 65536:=by
  rw [Nat.one_shiftLeft]
  exact ⟨Nat.one_le_two_pow,Nat.pow_lt_pow_right (n:=16) (by omega) h⟩
theorem Ma {t:FTest} {k:Nat} {b c:Int} (h:t.sees[k]? = some b):Bf ((List.range (k + 1)).filter (Qi t c)) = if b = c then Bf ((List.range k).filter (Qi t c)) ||| 1 <<< k else Bf ((List.range k).filter (Qi t c)):=by
  rw [List.range_succ,Gb]
  have e1:Qi t c k = (b == c):=by unfold Qi; rw [h]
  rw [e1]
  by_cases e:b = c
  · rw [if_pos (by simp [e]),if_pos e]
  · rw [if_neg (by simp [e]),if_neg e]
theorem Ve:(List.range 5).all (fun n=>(List.range (1 <<< n)).all fun s=>((List.range n).filter (Cu s)).length == De s) = true:=by decide +kernel
theorem Vw {s n:Nat} (hn:n ≤ 4) (hs:s < 1 <<< n):((List.range n).filter (Cu s)).length = De s:=by
  have:=List.all_eq_true.1 (List.all_eq_true.1 Ve n (by simp; omega)) s (by simpa using hs)
  simpa using this
theorem At.cast {α:Type} [Dat α] {ρ:Ro} {p:Value} {x y:α} (h:x = y) (hx:At ρ p x):At ρ p y:=h ▸ hx
theorem atE {α:Type} [Dat α] {ρ:Ro} {w p:Value} {x:α} (h:w = p) (hx:At ρ p x):At ρ w x:=by rw [h]; exact hx
theorem Apx {k:Nat} (h:k < 4):1 ≤ 1 <<< k∧1 <<< k < 16:=by
  rw [Nat.one_shiftLeft]
  exact ⟨Nat.one_le_two_pow,Nat.pow_lt_pow_right (n:=4) (by omega) h⟩
theorem Fp {l:Lab} (ok:LabOk l) {rs:List Found}:Av (Bf (Ba l rs)) = Ba l rs:=Tl (Rz ok)
theorem Jw {l:Lab} (ok:LabOk l) {rs:List Found}:Bf (Ba l rs) < 65536:=Sl (n:=16) fun a ha=>((Qg ok).2 a ha)
theorem Afc {l:List Nat}:Bf l = 0↔l = []:=by
  constructor
  · intro h
    cases l with
    | nil=>rfl
    | cons a l =>
      have:=Ng (a :: l) a
      rw [h] at this
      simp at this
  · rintro rfl; rfl
/-- What is known of something that is so in some things,or not. -/
def Ga {α:Type} (p:α→Bool) (xs:List α):Int:=if xs.any p && xs.any (fun x=>!p x) then 0 else if xs.any p then 1 else 2
theorem Yr {α:Type} {p:α→Bool} {xs:List α}:0 ≤ Ga p xs∧Ga p xs ≤ 2:=by
  unfold Ga; split
  · omega
  · split <;> omega
theorem any_app {α:Type} {p:α→Bool} {l:List α} {x:α}:(l ++ [x]).any p = (l.any p || p x):=by simp
theorem Abo {l:Lab} {rs:List Found} (h:Hv l rs = 0):Gh l = 0∧ResOk l rs∧rs.length ≤ 8:=by
  have h2:=Ank h
  unfold Hv at h
  rw [Jx] at h
  exact ⟨h.1,h2.2⟩
theorem Abd {xs:List Nat} {k:Nat}:Iz xs k = 0↔xs.any (fun x=>Cu x k) = false:=by
  unfold Iz
  induction xs with
  | nil=>simp
  | cons a l ih =>
    rw [List.map_cons,List.sum_cons,List.any_cons,Bool.or_eq_false_iff,← ih]
    unfold Cu
    rcases Nat.mod_two_eq_zero_or_one (a >>> k) with h | h <;> rw [h]
    · exact ⟨fun h=>⟨rfl,by omega⟩,fun h=>by have:=h.2; omega⟩
    · exact ⟨fun h=>by omega,fun h=>by cases h.1⟩
theorem Aep {xs:List Nat} {k:Nat}:Iz xs k = xs.length↔xs.any (fun x=>!Cu x k) = false:=by
  have hle:∀ l:List Nat,Iz l k ≤ l.length:=fun l=>Ahi
  induction xs with
  | nil=>simp [Iz]
  | cons a l ih =>
    have e:Iz (a :: l) k = (a >>> k) % 2 + Iz l k:=by simp [Iz]
    have:=hle l
    rw [e,List.any_cons,Bool.or_eq_false_iff,List.length_cons,show Cu a k = ((a >>> k) % 2 == 1) from rfl]
    rcases Nat.mod_two_eq_zero_or_one (a >>> k) with h | h <;> rw [h]
    · exact ⟨fun h=>by omega,fun h=>by cases h.1⟩
    · exact ⟨fun h=>⟨rfl,ih.1 (by omega)⟩,fun h=>by have:=ih.2 h.2; omega⟩
theorem Ys {xs:List Nat} {k:Nat}:Ga (fun x=>Cu x k) xs = Po xs k:=by
  have e:Po xs k = if xs.any (fun x=>Cu x k) = false then 2 else if xs.any (fun x=>!Cu x k) = false then 1 else 0:=by
    unfold Po; simp only [Abd,Aep]
  rw [e]
  unfold Ga
  cases ha:xs.any (fun x=>Cu x k) <;> cases hb:xs.any (fun x=>!Cu x k) <;> simp
theorem Tx {l:List Nat}:Bf l = 0↔l.length = 0:=by rw [Afc,List.length_eq_zero_iff]
theorem Amx {α:Type} [BEq α] [LawfulBEq α] {a b:α} (h:a ≠ b):(a != b) = true:=by simpa using h
theorem Qk {s:Nat} (h:s < 65536):((((s &&& 1:Nat):Int) == 0) || ((s:Int) == 1)) = Ea (Bw (Av s)):=by
  have hm:=Abh h
  rw [Bool.eq_iff_iff]
  constructor
  · intro h1
    refine Afl fun j hj=>?_
    unfold Ig
    cases hx:(Bw (Av s))[j]? with
    | none=>rfl
    | some x =>
      cases hy:(Bw (Av s))[0]? with
      | none=>rfl
      | some y =>
        obtain ⟨a,ha,rfl⟩:=Ts hx
        obtain ⟨b,hb,rfl⟩:=Ts hy
        have ha1:=(Lz.1 (List.mem_of_getElem? ha)).2
        have hb1:=(Lz.1 (List.mem_of_getElem? hb)).2
        simp only [Bool.or_eq_true,beq_iff_eq] at h1
        have key:∀ c,s.testBit c = true→((c:Int) == 0) = (s == 1):=fun c hc=>by
          rcases h1 with h1 | h1
          · have h0:s.testBit 0 = false:=by
              rw [Nat.testBit_zero]; rw [Nat.and_one_is_mod] at h1; have:s % 2 = 0:=by omega
              simp [this]
            have hc0:c ≠ 0:=fun e=>by subst e; rw [h0] at hc; cases hc
            have hs1:s ≠ 1:=fun e=>by subst e; simp at h0
            rw [show ((c:Int) == 0) = false from beq_eq_false_iff_ne.2 (by omega),show (s == 1) = false from beq_eq_false_iff_ne.2 hs1]
          · have hs1:s = 1:=by omega
            subst hs1
            have hc0:c = 0:=by
              have:(1:Nat).testBit c = decide (c = 0):=by
                have:=Nat.testBit_two_pow (n:=0) (m:=c)
                simpa [eq_comm] using this
              rw [this] at hc; exact of_decide_eq_true hc
            subst hc0; rfl
        show (((a:Int) == 0) != ((b:Int) == 0)) = false
        rw [key a ha1,key b hb1]; simp
  · intro h1
    cases hb0:s.testBit 0 with
    | false =>
      have:s &&& 1 = 0:=by rw [Nat.and_one_is_mod]; rw [Nat.testBit_zero] at hb0; simp at hb0; omega
      simp [this]
    | true =>
      have h0:Av s = 0 :: (Av s).tail:=by
        unfold Av
        rw [show List.range 16 = 0 :: List.range' 1 15 by decide,List.filter_cons,Ez,hb0,if_pos rfl]; rfl
      have hall:∀ a ∈ Av s,a = 0:=fun a ha=>by
        obtain ⟨j,hj⟩:=List.getElem?_of_mem ha
        have hlt:=(List.getElem?_eq_some_iff.1 hj).1
        apply Classical.byContradiction
        intro hne
        have hf:Ea (Bw (Av s)) = false:=Afk (i:=j) (by rw [Fc]; exact hlt) (by
          unfold Ig
          have e1:(Bw (Av s))[j]? = some (a:Int):=by unfold Bw; rw [List.getElem?_map,hj]; rfl
          have e2:(Bw (Av s))[0]? = some ((0:Nat):Int):=by rw [h0]; rfl
          rw [e1,e2]
          simp [hne])
        rw [hf] at h1; cases h1
      have hs:s = 1:=by
        rw [← hm]
        have:Av s = [0]:=by
          have hnd:(Av s).Nodup:=(Vo s).nodup List.nodup_range
          rw [h0] at hnd hall ⊢
          cases ht:(Av s).tail with
          | nil=>rfl
          | cons b t =>
            rw [ht] at hnd hall
            have hb:=hall b (by simp)
            subst hb
            simp at hnd
        rw [this]; rfl
      subst hs; rfl
end Go.Proofs.YtphgjjmlnkgghaaGreatDoor

namespace Go.Proofs.YtphgjjmlnkgghaaGreatDoor
set_option maxHeartbeats 1000000
open Go
set_option maxRecDepth 100000 in
theorem Aha {mn:Bool} {X:Frame→List Frame→Ro→Own→Cy→Prop} {ρ:Ro} {σ:Own} {s k:Nat} (hs:s < 65536) (hk:k < 64):CallsH (CX mn X) 85 #[(iV ((s:Int))),(iV ((k:Int)))] ρ σ (fun w ρ' σ'=>ρ' = ρ∧σ' = σ∧w = (.bool (Cu s k))):=by
 refine Bh (n:=10) (args:=[(iV ((s:Int))),(iV ((k:Int)))]) [4] Tryz.func85 rfl rfl rfl rfl fun Q hret hnor=>?_
 refine w_q rfl rfl fun K1 k1=>?_
 refine l_v (Cp (v:=(.bool (false))) rfl) ?_
 refine Arx rfl rfl k1 fun K2 k2=>?_
 refine l_v (Ah (v:=(iV ((s:Int)))) rfl) ?_
 refine l_v (Ah (v:=(iV ((k:Int)))) rfl) ?_
 refine l_v (Lc (p:=s) (q:=k) rfl rfl rfl (by omega)) ?_
 refine l_v (Qs (p:=(s >>> k)) (q:=1) rfl rfl (Nl (by omega))) ?_
 refine l_v (Ek rfl rfl) ?_
 refine l_v (Cp (v:=(.bool (((((s >>> k) &&& 1):Nat):Int) == 1))) rfl) ?_
 refine l_k k2 ?_
 refine Aq ?_
 refine hret _ _ _ ⟨rfl,rfl,Eq.trans (b:=(.bool (((((s >>> k) &&& 1):Nat):Int) == 1))) rfl ?_⟩
 rw [bitA]
set_option maxRecDepth 100000 in
theorem Akp {mn:Bool} {X:Frame→List Frame→Ro→Own→Cy→Prop} {ρ:Ro} {σ:Own} {er:Bool} {a u s:Nat} {vp:Value} (rp:Val ρ vp (⟨er,(a:Int),(u:Int)⟩:Probe)) (ha:a < 65536) (hu:u < 65536) (hs:s < 65536):CallsH (CX mn X) 207 #[vp,(iV ((s:Int)))] ρ σ (fun w ρ' σ'=>ρ' = ρ∧σ' = σ∧w = (.bool (Pa er a u s))):=by
 refine Bh (n:=17) (args:=[vp,(iV ((s:Int)))]) [4] Tryz.func207 rfl rfl rfl rfl fun Q hret hnor=>?_
 refine w_q rfl rfl fun K1 k1=>?_
 refine Arv (Eb (v:=vp) rfl fun k2=>?_)
 refine Bb (a:=(⟨er,(a:Int),(u:Int)⟩:Probe)) rp fun ρ2 l2 r2=>?_
 refine l_v (Cp (v:=(.bool (false))) rfl) ?_
 refine Arx rfl rfl k1 fun K3 k3=>?_
 refine Arw (Ay Probe.f_errs Tryz.underlying262 rfl rfl ty4 (by decide) rfl r2) fun v4 r4=>?_
 refine l_v (Nx ty4 rfl r4) ?_
 refine l_v (Ah (v:=(.bool (er))) rfl) ?_
 refine Cn (er) (fun b6=>?_) (fun b6=>?_)
 ·refine Ap (Bl rfl rfl rfl b6) ?_
  refine Ap (Bl rfl rfl rfl b6) ?_
  refine Ap (Bl rfl rfl rfl b6) ?_
  refine Ap (Bl rfl rfl rfl b6) ?_
  refine Ap (Bl rfl rfl rfl b6) ?_
  refine Ap (Bl rfl rfl rfl b6) ?_
  refine Ap (Bl rfl rfl rfl b6) ?_
  refine Ap (Bl rfl rfl rfl b6) ?_
  refine l_v (Bt rfl b6 (v:=(.bool (true))) rfl) ?_
  refine l_v (Cp (v:=(.bool (true))) rfl) ?_
  refine l_k k3 ?_
  refine Aj (Asf l2) ?_
  refine Aq ?_
  refine hret _ _ _ ⟨rfl,rfl,Eq.trans (b:=(.bool (true))) rfl ?_⟩
  rw [Pa,b6]; rfl
 refine l_M (iV ((s:Int))) (Ar rfl rfl rfl b6) rfl ?_
 refine Ak (Ar rfl rfl rfl b6) (Ay Probe.f_sure Tryz.underlying262 rfl rfl Wj (by decide) rfl r2) fun v7 r7=>?_
 have ⟨g8a,g8b⟩:=At.rng r7
 refine Aa (Ar rfl rfl rfl b6) (Bc Wj rfl r7) ?_
 refine Ak (Ar rfl rfl rfl b6) (Ay Probe.f_unsure Tryz.underlying262 rfl rfl Wj (by decide) rfl r2) fun v9 r9=>?_
 have ⟨g10a,g10b⟩:=At.rng r9
 refine Aa (Ar rfl rfl rfl b6) (Bc Wj rfl r9) ?_
 refine Aa (Ar rfl rfl rfl b6) (Acj (p:=a) (q:=u) rfl rfl (by omega) (by omega)) ?_
 refine Aa (Ar rfl rfl rfl b6) (Qs (p:=s) (q:=(a ||| u)) rfl rfl (by omega)) ?_
 refine Aa (Ar rfl rfl rfl b6) (Dg rfl rfl) ?_
 refine l_v (Bn rfl b6 (v:=(.bool ((((s &&& (a ||| u)):Nat):Int) != 0))) rfl) ?_
 refine l_v (Cp (v:=(.bool ((((s &&& (a ||| u)):Nat):Int) != 0))) rfl) ?_
 refine l_k k3 ?_
 refine Aj (Asf l2) ?_
 refine Aq ?_
 refine hret _ _ _ ⟨rfl,rfl,Eq.trans (b:=(.bool ((((s &&& (a ||| u)):Nat):Int) != 0))) rfl ?_⟩
 rw [Pa,b6,Bool.false_or]
set_option maxRecDepth 100000 in
theorem Ahd {mn:Bool} {X:Frame→List Frame→Ro→Own→Cy→Prop} {ρ:Ro} {σ:Own} {er:Bool} {a u s:Nat} {vp:Value} (rp:Val ρ vp (⟨er,(a:Int),(u:Int)⟩:Probe)) (ha:a < 65536) (hu:u < 65536) (hs:s < 65536):CallsH (CX mn X) 209 #[vp,(iV ((s:Int)))] ρ σ (fun w ρ' σ'=>ρ' = ρ∧σ' = σ∧w = (.bool (Qa a s))):=by
 refine Bh (n:=10) (args:=[vp,(iV ((s:Int)))]) [4] Tryz.func209 rfl rfl rfl rfl fun Q hret hnor=>?_
 refine w_q rfl rfl fun K1 k1=>?_
 refine Arv (Eb (v:=vp) rfl fun k2=>?_)
 refine Bb (a:=(⟨er,(a:Int),(u:Int)⟩:Probe)) rp fun ρ2 l2 r2=>?_
 refine l_v (Cp (v:=(.bool (false))) rfl) ?_
 refine Arx rfl rfl k1 fun K3 k3=>?_
 refine l_v (Ah (v:=(iV ((s:Int)))) rfl) ?_
 refine Arw (Ay Probe.f_sure Tryz.underlying262 rfl rfl Wj (by decide) rfl r2) fun v4 r4=>?_
 have ⟨g5a,g5b⟩:=At.rng r4
 refine l_v (Bc Wj rfl r4) ?_
 refine l_v (Qs (p:=s) (q:=a) rfl rfl (by omega)) ?_
 refine l_v (Ek rfl rfl) ?_
 refine l_v (Cp (v:=(.bool ((((s &&& a):Nat):Int) == 0))) rfl) ?_
 refine l_k k3 ?_
 refine Aj (Asf l2) ?_
 refine Aq ?_
 refine hret _ _ _ ⟨rfl,rfl,Eq.trans (b:=(.bool ((((s &&& a):Nat):Int) == 0))) rfl ?_⟩
 rfl
set_option maxRecDepth 100000 in
theorem Ale {s:Nat} {ρ₀:Ro} {vc:Value} (hc:At ρ₀ vc (s:Int)) (hs:s < 65536):IterF (.func (.func 134) #[] #[vc]) ρ₀ ((Av s).map (fun x:Nat=>Value.int .i64 (x:Int))):=by
 refine ⟨134,_,[vc],rfl,Tryz.func134,rfl,rfl,?_⟩
 intro mn X l I ρ σ hle hmono hI hy
 replace hc:=hc.mono hle
 refine Bh (n:=21) (args:=[(.func (.yield l) #[] #[]),vc]) [] Tryz.func134 rfl rfl rfl rfl fun Q hret hnor=>?_
 refine w_q rfl rfl fun K1 k1=>?_
 refine l_v (Cp (v:=(iV (0))) rfl) ?_
 refine l_k k1 ?_
 refine Ao ?_
 refine Cc (fun mm ee dd ρ' σ'=>∃ (k:Nat) (σb2:Own),(17 - k) = mm∧[] = dd∧Ro.le ρ ρ'∧σb2 = σ'∧ee 0 = (.func (.yield l) #[] #[])∧ee 1 = vc∧ee 3 = (iV ((k:Int)))∧(k ≤ 16)∧I (((List.range k).filter (Cu s)).map (fun x:Nat=>Value.int .i64 (x:Int))) ρ' σb2∧True) (m:=_) ⟨0,σ,rfl,rfl,Ash,rfl,rfl,rfl,rfl,(by omega),hI,trivial⟩ ?_
 rintro m2 e2 _ ρ2 _ ⟨k,σb2,rfl,rfl,l2,rfl,h2_0,h2_1,h2_3,p2_0,IB2,_⟩
 replace hc:=At.mono l2 hc
 refine Asb rfl rfl fun K3 K4 k3 k4=>?_
 have ⟨g5a,g5b⟩:=At.rng hc
 refine l_v (Bc Jg h2_1 hc) ?_
 refine l_v (Ah (v:=(iV ((k:Int)))) h2_3) ?_
 refine l_v (Lc (p:=s) (q:=k) rfl rfl rfl (by omega)) ?_
 refine l_v (Gl rfl rfl) ?_
 refine l_k k4 ?_
 refine As (t:=decide ((((s >>> k):Nat):Int) > 0)) rfl (fun b6=>?_) (fun b6=>?_)
 ·have q6:=of_decide_eq_true b6
  refine Al ?_
  apply k3
  refine Ai fun K7 k7=>?_
  refine Ao ?_
  refine w_q rfl rfl fun K8 k8=>?_
  have ⟨g9a,g9b⟩:=At.rng hc
  refine l_v (Bc Jg h2_1 hc) ?_
  refine l_v (Ah (v:=(iV ((k:Int)))) h2_3) ?_
  refine l_v (Lc (p:=s) (q:=k) rfl rfl rfl (by omega)) ?_
  refine l_v (Qs (p:=(s >>> k)) (q:=1) rfl rfl (Nl (by omega))) ?_
  refine l_v (Ek rfl rfl) ?_
  refine l_v (Ah (v:=(.bool (((((s >>> k) &&& 1):Nat):Int) == 1))) rfl) ?_
  refine Cn (((((s >>> k) &&& 1):Nat):Int) == 1) (fun b10=>?_) (fun b10=>?_)
  ·have q10:=Jr b10
   refine Aa (Ar rfl rfl rfl b10) (Ah (v:=(.func (.yield l) #[] #[])) h2_0) ?_
   refine Aa (Ar rfl rfl rfl b10) (Ah (v:=(iV ((k:Int)))) h2_3) ?_
   have hbk:=(bitA (s:=s) (i:=k)).symm.trans b10
   have hk16:=k16 hs p2_0 q6
   refine Ae (Ar rfl rfl rfl b10) (Xr (v:=(iV ((k:Int)))) rfl rfl (hy (((List.range k).filter (Cu s)).map (fun x:Nat=>Value.int .i64 (x:Int))) (iV ((k:Int))) (((List.range' (k + 1) (15 - k)).filter (Cu s)).map (fun x:Nat=>Value.int .i64 (x:Int))) _ _ (by rw [Yh hk16 hbk,List.map_append,List.map_cons]) l2 IB2) fun w11 ρ11 σ11 hc11=>?_)
   obtain ⟨hw11,l11,I11⟩:=hc11
   subst hw11
   refine Aa (Ar rfl rfl rfl b10) (Iy rfl) ?_
   refine l_v (Bt rfl b10 (v:=(.bool (!(true)))) rfl) ?_
   refine l_k k8 ?_
   refine Cg rfl (not_t rfl) ?_
   refine Al ?_
   apply k7
   refine Ag rfl rfl ?_
   refine l_v (Ah (v:=(iV ((k:Int)))) h2_3) ?_
   refine l_v (Br rfl rfl (z:=(((k + 1):Nat):Int)) (Bo (by first | rfl | omega | (push_cast; rfl)) (by omega) (by omega))) ?_
   refine l_v (Cp (v:=(iV ((((k + 1):Nat):Int)))) rfl) ?_
   apply Ac
   refine ⟨_,?_,((k + 1)),σ11,rfl,rfl,(Asi l2 l11),rfl,h2_0,h2_1,rfl,(by have:=k16 hs p2_0 q6; omega),(Yp (by rw [Od,hbk,if_pos rfl,List.map_append]; rfl) I11),trivial⟩
   have:=k16 hs p2_0 q6; omega
  have q10:=Jq b10
  refine Ap (Bl rfl rfl rfl b10) ?_
  refine Ap (Bl rfl rfl rfl b10) ?_
  refine Ap (Bl rfl rfl rfl b10) ?_
  refine Ap (Bl rfl rfl rfl b10) ?_
  refine l_v (Bn rfl b10 (v:=(.bool (false))) rfl) ?_
  refine l_k k8 ?_
  refine Cg rfl rfl ?_
  refine Al ?_
  apply k7
  refine Ag rfl rfl ?_
  refine l_v (Ah (v:=(iV ((k:Int)))) h2_3) ?_
  refine l_v (Br rfl rfl (z:=(((k + 1):Nat):Int)) (Bo (by first | rfl | omega | (push_cast; rfl)) (by omega) (by omega))) ?_
  refine l_v (Cp (v:=(iV ((((k + 1):Nat):Int)))) rfl) ?_
  apply Ac
  refine ⟨_,?_,((k + 1)),σb2,rfl,rfl,l2,rfl,h2_0,h2_1,rfl,(by have:=k16 hs p2_0 q6; omega),(Yp (by rw [Od,(bitA (s:=s) (i:=k)).symm.trans b10,if_neg (by simp),List.append_nil]) IB2),trivial⟩
  have:=k16 hs p2_0 q6; omega
 have q6:=of_decide_eq_false b6
 refine Bx ?_
 refine hnor _ _ _ ?_
 refine ⟨l2,?_⟩
 rw [Akz (s:=s) (k:=k) (shz q6) p2_0]; exact IB2
set_option maxRecDepth 100000 in
theorem Abb {mn:Bool} {X:Frame→List Frame→Ro→Own→Cy→Prop} {ρ:Ro} {σ:Own} {s:Nat} (hs:s < 65536):CallsH (CX mn X) 83 #[(iV ((s:Int)))] ρ σ (fun w ρ' σ'=>Ro.le ρ ρ'∧σ' = σ∧IterF w ρ' ((Av s).map (fun x:Nat=>Value.int .i64 (x:Int)))):=by
 refine Bh (n:=4) (args:=[(iV ((s:Int)))]) [2] Tryz.func83 rfl rfl rfl rfl fun Q hret hnor=>?_
 refine w_q rfl rfl fun K1 k1=>?_
 refine Arv (Eb (v:=(iV ((s:Int)))) rfl fun k2=>?_)
 refine Bb (a:=(s:Int)) (Cv.2 ⟨rfl,by constructor <;> omega⟩) fun ρ2 l2 r2=>?_
 refine l_v (Cp (v:=.nilFunc) rfl) ?_
 refine Arx rfl rfl k1 fun K3 k3=>?_
 refine l_v (Il (fn:=.func 134) (caps:=[.tmp 1]) (vs:=[(.pointer (some ⟨k2,0,none⟩))]) ⟨rfl,trivial⟩) ?_
 refine l_v (Cp (v:=(.func (.func 134) #[] #[(.pointer (some ⟨k2,0,none⟩))])) rfl) ?_
 refine l_k k3 ?_
 refine Aq ?_
 refine hret _ _ _ ?_
 refine ⟨l2,rfl,?_⟩
 exact Ale r2 hs
set_option maxRecDepth 100000 in
theorem Pp {mn:Bool} {X:Frame→List Frame→Ro→Own→Cy→Prop} {ρ:Ro} {σ:Own} {l:Lab} {vb:Value} {s rm:Nat} {test:Int} {found:Bool} (hg:Glob ρ) (rb:At ρ vb (⟨l.tests.map Dr,((Bf (Hr l):Nat):Int),⟨rm⟩⟩:Bench)) (hl:Gh l = 0) (hs:s < 65536) (ht:0 ≤ test∧test < (l.tests.length:Int)):CallsH (CX mn X) 90 #[vb,(iV ((s:Int))),(iV (test)),(.bool (found))] ρ σ (fun w ρ' σ'=>ρ' = ρ∧σ' = σ∧w = (iV (((Bf (Au l (Av s) ⟨test,found⟩):Nat):Int)))):=by
 have ok:=Ll hl
 have hk4:=ok.n4
 have hnt5:=ok.ntests
 have hml:(l.tests.map Dr).length = l.tests.length:=by simp
 refine Nz (n:=33) (args:=[vb,(iV ((s:Int))),(iV (test)),(.bool (found))]) [8] Tryz.func90 rfl rfl rfl rfl fun Q hret hnor=>?_
 refine w_q rfl rfl fun K1 k1=>?_
 refine Arv (Eb (v:=vb) rfl fun k2=>?_)
 refine Bb (a:=(Ptr.mk ((⟨l.tests.map Dr,((Bf (Hr l):Nat):Int),⟨rm⟩⟩:Bench)))) (Ir.2 rb) fun ρ2 l2 r2=>?_
 replace hg:=Glob.mono l2 hg
 refine Arv (Eb (v:=(iV (test))) rfl fun k3=>?_)
 refine Bb (a:=test) (Cv.2 ⟨rfl,by constructor <;> omega⟩) fun ρ3 l3 r3=>?_
 replace hg:=Glob.mono l3 hg
 replace r2:=At.mono l3 r2
 refine l_v (Cp (v:=(iV (0))) rfl) ?_
 refine Arx rfl rfl k1 fun K4 k4=>?_
 refine Arv (Ct zr3 fun k5=>?_)
 refine Cx rfl (Cz (j:=0) (v:=(iV (0))) ⟨_,Ab Tryz.typeInfo3,rfl⟩ rfl rfl rfl rfl (Nat.le_of_ble_eq_true rfl) ?_)
 refine Ary rfl rfl k4 fun K6 K7 k6 k7=>?_
 refine l_v (Ah (v:=(.bool (found))) rfl) ?_
 refine l_k k7 ?_
 refine As (t:=found) rfl (fun b8=>?_) (fun b8=>?_)
 ·refine Ag rfl rfl ?_
  refine Cx rfl (Cz (j:=0) (v:=(iV (1))) ⟨_,Ab Tryz.typeInfo3,rfl⟩ rfl rfl rfl rfl (Nat.le_of_ble_eq_true rfl) ?_)
  refine Arx rfl rfl k6 fun K9 k9=>?_
  refine Arv (Ct Amt fun k10=>?_)
  refine Ary rfl rfl k9 fun K11 K12 k11 k12=>?_
  refine l_v (Ah (v:=(iV ((s:Int)))) rfl) ?_
  refine Arv (Cm (vs:=[(iV ((s:Int)))]) (Abb (s:=s) (by omega)) Tryz.func83 rfl rfl ⟨rfl,trivial⟩ fun v13 ρ13 σ13 hc13=>?_)
  obtain ⟨l13,s13,r13⟩:=hc13
  replace s13:=s13.symm; subst s13
  replace hg:=Glob.mono l13 hg
  replace r2:=At.mono l13 r2
  replace r3:=At.mono l13 r3
  refine l_k k12 ?_
  refine Ao ?_
  refine Hs (ys:=(Av s).map (fun x:Nat=>Value.int .i64 (x:Int))) (fun pre ρ' τ=>∃ (l1:List Nat) (o:Nat),pre = l1.map (fun x:Nat=>Value.int .i64 (x:Int))∧((k10,oC #[(iV ((o:Int)))] 191) :: ((k5,oC #[(iV (1))] 3) :: σ)) = τ∧(o = Bf (l1.filter (Px l ⟨test,found⟩)))∧(o < 65536)∧True) rfl rfl (Nat.le_of_ble_eq_true rfl) rfl r13 ?_ ?_ ?_ ?_
  ·exact fun _ _ _ _ _ h=>h
  ·exact ⟨[],0,rfl,rfl,rfl,(by omega),trivial⟩
  ·rintro l14_ _ x14 post14 ρ14 _ hys14 l14 ⟨l1,o,rfl,rfl,p14_0,p14_1,_⟩ pfx14
   obtain ⟨a14,l2_14,hl14,rfl⟩:=Ly Yi hys14
   replace hg:=Glob.mono l14 hg
   replace r2:=At.mono l14 r2
   replace r3:=At.mono l14 r3
   refine Aj (σ':=((k10,Res.obj (Obj.cells #[(iV ((o:Int)))] 191 (0,0))) :: ((k5,Res.obj (Obj.cells #[(iV (1))] 3 (0,0))) :: (pfx14 ++ σ)))) (Asg (Fe pfx14 ([(k10,Res.obj (Obj.cells #[(iV ((o:Int)))] 191 (0,0))),(k5,Res.obj (Obj.cells #[(iV (1))] 3 (0,0)))]) σ)) ?_
   have hx16:=Pt (s:=s) (a:=a14) (by rw [hl14]; simp)
   have hsh16:=Aja hx16
   refine Ag rfl rfl ?_
   refine l_v (Cp (v:=(iV ((a14:Int)))) rfl) ?_
   refine Bj (σ':=pfx14 ++ ((k10,Res.obj (Obj.cells #[(iV ((o:Int)))] 191 (0,0))) :: ((k5,Res.obj (Obj.cells #[(iV (1))] 3 (0,0))) :: σ))) (Asg (Fe ([(k10,Res.obj (Obj.cells #[(iV ((o:Int)))] 191 (0,0))),(k5,Res.obj (Obj.cells #[(iV (1))] 3 (0,0)))]) pfx14 σ)) ?_
   apply Ac
   refine ⟨rfl,rfl,Ash,_,rfl,?_⟩
   intro pfy14
   refine Aj (σ':=((k10,Res.obj (Obj.cells #[(iV ((o:Int)))] 191 (0,0))) :: ((k5,Res.obj (Obj.cells #[(iV (1))] 3 (0,0))) :: (pfy14 ++ σ)))) (Asg (Fe pfy14 ([(k10,Res.obj (Obj.cells #[(iV ((o:Int)))] 191 (0,0))),(k5,Res.obj (Obj.cells #[(iV (1))] 3 (0,0)))]) σ)) ?_
   refine Ao ?_
   refine Ai fun K15 k15=>?_
   refine Dc [0,1,2,3,4,5,6,7,8,9,10,11] (by kernel_rfl) rfl rfl ?_
   refine Cd (i:=3) [o0,o0,o0,o1,o0,o0,o0,o0,o0,o0,o0,o0] rfl (by kernel_rfl) rfl Ash rfl (Ax Sc rfl r2) fun v16 r16=>?_
   replace r16:=Ir.1 r16
   refine Bd (i:=4) [o0,o0,o0,o1,o1,o0,o0,o0,o0,o0,o0,o0] rfl (by kernel_rfl) rfl Ash rfl (Hj rfl r16) ?_
   refine Cd (i:=5) [o0,o0,o0,o1,o1,o1,o0,o0,o0,o0,o0,o0] rfl (by kernel_rfl) rfl Ash rfl (Ay Bench.f_probes Tryz.underlying258 rfl rfl Wl (by decide) rfl r16) fun v17 r17=>?_
   refine Cd (i:=6) [o0,o0,o0,o1,o1,o1,o1,o0,o0,o0,o0,o0] rfl (by kernel_rfl) rfl Ash rfl (Ax Wl rfl r17) fun v18 r18=>?_
   have ⟨g19a,g19b⟩:=At.rng r3
   refine Bd (i:=7) [o0,o0,o0,o1,o1,o1,o1,o1,o0,o0,o0,o0] rfl (by kernel_rfl) rfl Ash rfl (Bc ty3 rfl r3) ?_
   obtain ⟨a21,ha21⟩:=Ed (xs:=l.tests.map Dr) (i:=(test).toNat) (by omega)
   obtain ⟨t22,ht22,hp22⟩:=Adf ha21
   subst hp22
   obtain ⟨hs22,hk22⟩:=Rf hl ht22
   have hb1_22:=Qj (t:=t22) (b:=1) (by omega)
   have hb0_22:=Qj (t:=t22) (b:=0) (by omega)
   refine Cd (i:=8) [o0,o0,o0,o1,o1,o1,o1,o1,o1,o0,o0,o0] rfl (by kernel_rfl) rfl Ash rfl (Ch ((test).toNat) Tryz.underlying255 Un rfl r18 (q:=test) rfl (by omega) ha21) fun v20 r20=>?_
   refine Cd (i:=9) [o0,o0,o0,o1,o1,o1,o1,o1,o1,o1,o0,o0] rfl (by kernel_rfl) rfl Ash rfl (Ax Un rfl r20) fun v23 r23=>?_
   refine Bd (i:=10) [o0,o0,o0,o1,o1,o1,o1,o1,o1,o1,o1,o0] rfl (by kernel_rfl) rfl Ash rfl (Ah (v:=(iV ((a14:Int)))) rfl) ?_
   refine Dj (i:=0) [o1,o0,o0,o1,o1,o1,o1,o1,o1,o1,o1,o0] rfl (by kernel_rfl) rfl rfl (Dt (i:=1) (v:=(iV (1))) ⟨_,Tryz.underlying3,rfl⟩ rfl rfl rfl ⟨Ash,?_⟩)
   refine Bg (i:=1) [o1,o1,o0,o1,o1,o1,o1,o1,o1,o1,o1,o0] rfl (by kernel_rfl) rfl Ash rfl (Cq (k':=1) 1 Tryz.underlying260 ⟨_,Ab Tryz.typeInfo259,rfl⟩ rfl (q:=1) rfl rfl (by decide) (off':=1) rfl) ?_
   obtain ⟨tt24,fz24,hgl24⟩:=hg.can
   refine Bg (i:=2) zZ0 rfl (by kernel_rfl) rfl Ash rfl (Aae (v:=(.func (.func 207) #[] #[])) ⟨_,Tryz.underlying259,rfl⟩ rfl hgl24 rfl) ?_
   refine Dj (i:=11) zZ1 rfl (by kernel_rfl) rfl rfl (Ur (caps:=[]) (vs:=[v23,(iV ((a14:Int)))]) (v:=(.bool (Pa t22.errs (Gk t22 1) (Gk t22 0) a14))) rfl (Akp (er:=t22.errs) (a:=Gk t22 1) (u:=Gk t22 0) r23 (by omega) (by omega) (by omega)) Tryz.func207 rfl rfl ⟨rfl,rfl,trivial⟩ ⟨Ash,?_⟩)
   refine Ec rfl ?_
   apply k15
   refine As (t:=Pa t22.errs (Gk t22 1) (Gk t22 0) a14) rfl (fun b25=>?_) (fun b25=>?_)
   ·refine Aab ?_
    refine Dc [0,1,2,3,4] (by kernel_rfl) rfl rfl ?_
    refine Bd (i:=1) [o0,o1,o0,o0,o0] rfl (by kernel_rfl) rfl Ash rfl (Ah (v:=(iV ((a14:Int)))) rfl) ?_
    refine Bd (i:=2) [o0,o1,o1,o0,o0] rfl (by kernel_rfl) rfl Ash rfl (Md (p:=1) (q:=a14) rfl rfl rfl (by omega) (z:=(((1 <<< a14):Nat):Int)) (Bo rfl (by omega) (by omega))) ?_
    refine Dj (i:=0) [o1,o1,o1,o0,o0] rfl (by kernel_rfl) rfl rfl (Dt (i:=0) (v:=(iV ((o:Int)))) ⟨_,Tryz.underlying191,rfl⟩ rfl rfl rfl ⟨Ash,?_⟩)
    refine Bg (i:=3) [o1,o1,o1,o1,o0] rfl (by kernel_rfl) rfl Ash rfl (Acj (p:=o) (q:=(1 <<< a14)) rfl rfl (by omega) (by omega)) ?_
    refine Fg (i:=4) [o1,o1,o1,o1,o1] rfl (by kernel_rfl) rfl rfl (Cz (j:=0) (v:=(iV ((((o ||| (1 <<< a14)):Nat):Int)))) ⟨_,Ab Tryz.typeInfo191,rfl⟩ rfl rfl rfl rfl (Nat.le_of_ble_eq_true rfl) ⟨Ash,?_⟩)
    refine Ec rfl ?_
    show Vl _ .normal _ _ _ _
    refine Yn (σ':=pfy14 ++ ((k10,Res.obj (Obj.cells #[(iV ((((o ||| (1 <<< a14)):Nat):Int)))] 191 (0,0))) :: ((k5,Res.obj (Obj.cells #[(iV (1))] 3 (0,0))) :: σ))) (Asg (Fe ([(k10,Res.obj (Obj.cells #[(iV ((((o ||| (1 <<< a14)):Nat):Int)))] 191 (0,0))),(k5,Res.obj (Obj.cells #[(iV (1))] 3 (0,0)))]) pfy14 σ)) ?_
    refine Adc ?_
    refine ⟨rfl,Ash,_,rfl,l1 ++ [a14],((o ||| (1 <<< a14))),(by simp),rfl,(by rw [Gb,(show Px l ⟨test,found⟩ a14 = true from (Xe (r:=⟨test,found⟩) ht22).trans (by rw [b8,← Vr hs22]; exact b25)),if_pos rfl,← p14_0]),(Nat.or_lt_two_pow (n:=16) (by omega) (by omega)),trivial⟩
   refine Aj (σ':=pfy14 ++ ((k10,Res.obj (Obj.cells #[(iV ((o:Int)))] 191 (0,0))) :: ((k5,Res.obj (Obj.cells #[(iV (1))] 3 (0,0))) :: σ))) (Asg (Fe ([(k10,Res.obj (Obj.cells #[(iV ((o:Int)))] 191 (0,0))),(k5,Res.obj (Obj.cells #[(iV (1))] 3 (0,0)))]) pfy14 σ)) ?_
   refine Al ?_
   refine ⟨rfl,Ash,_,rfl,l1 ++ [a14],(o),(by simp),rfl,(by rw [Gb,(show Px l ⟨test,found⟩ a14 = false from (Xe (r:=⟨test,found⟩) ht22).trans (by rw [b8,← Vr hs22]; exact b25)),if_neg (by simp),← p14_0]),(by omega),trivial⟩
  ·rintro k26 ρ26 _ l26 ⟨l1,o,hpre26,rfl,p14_0,p14_1,_⟩
   obtain rfl:=Nf Yi hpre26
   apply k11
   refine w_q rfl rfl fun K27 k27=>?_
   refine Arv (Dt (i:=1) (v:=(iV ((o:Int)))) ⟨_,Tryz.underlying191,rfl⟩ rfl rfl rfl ?_)
   refine l_v (Cp (v:=(iV ((o:Int)))) rfl) ?_
   refine l_k k27 ?_
   refine Aj (Asg Arz) ?_
   refine Aj Ghost.drop ?_
   refine Aj (Asg Arz) ?_
   refine Aj Ghost.drop ?_
   refine Aj (Asf (Asi (Asi (Asi l2 l3) l13) l26)) ?_
   refine Aq ?_
   refine hret _ _ _ _ ?_
   refine ⟨rfl,rfl,Eq.trans (b:=(iV ((o:Int)))) rfl ?_⟩
   rw [p14_0]; rfl
 refine Al ?_
 apply k6
 refine w_q rfl rfl fun K28 k28=>?_
 refine Arv (Ct Amt fun k29=>?_)
 refine Ary rfl rfl k28 fun K30 K31 k30 k31=>?_
 refine l_v (Ah (v:=(iV ((s:Int)))) rfl) ?_
 refine Arv (Cm (vs:=[(iV ((s:Int)))]) (Abb (s:=s) (by omega)) Tryz.func83 rfl rfl ⟨rfl,trivial⟩ fun v32 ρ32 σ32 hc32=>?_)
 obtain ⟨l32,s32,r32⟩:=hc32
 replace s32:=s32.symm; subst s32
 replace hg:=Glob.mono l32 hg
 replace r2:=At.mono l32 r2
 replace r3:=At.mono l32 r3
 refine l_k k31 ?_
 refine Ao ?_
 refine Hs (ys:=(Av s).map (fun x:Nat=>Value.int .i64 (x:Int))) (fun pre ρ' τ=>∃ (l1:List Nat) (o:Nat),pre = l1.map (fun x:Nat=>Value.int .i64 (x:Int))∧((k29,oC #[(iV ((o:Int)))] 191) :: ((k5,oC #[(iV (0))] 3) :: σ)) = τ∧(o = Bf (l1.filter (Px l ⟨test,found⟩)))∧(o < 65536)∧True) rfl rfl (Nat.le_of_ble_eq_true rfl) rfl r32 ?_ ?_ ?_ ?_
 ·exact fun _ _ _ _ _ h=>h
 ·exact ⟨[],0,rfl,rfl,rfl,(by omega),trivial⟩
 ·rintro l33_ _ x33 post33 ρ33 _ hys33 l33 ⟨l1,o,rfl,rfl,p33_0,p33_1,_⟩ pfx33
  obtain ⟨a33,l2_33,hl33,rfl⟩:=Ly Yi hys33
  replace hg:=Glob.mono l33 hg
  replace r2:=At.mono l33 r2
  replace r3:=At.mono l33 r3
  refine Aj (σ':=((k29,Res.obj (Obj.cells #[(iV ((o:Int)))] 191 (0,0))) :: ((k5,Res.obj (Obj.cells #[(iV (0))] 3 (0,0))) :: (pfx33 ++ σ)))) (Asg (Fe pfx33 ([(k29,Res.obj (Obj.cells #[(iV ((o:Int)))] 191 (0,0))),(k5,Res.obj (Obj.cells #[(iV (0))] 3 (0,0)))]) σ)) ?_
  have hx16:=Pt (s:=s) (a:=a33) (by rw [hl33]; simp)
  have hsh16:=Aja hx16
  refine Ag rfl rfl ?_
  refine l_v (Cp (v:=(iV ((a33:Int)))) rfl) ?_
  refine Bj (σ':=pfx33 ++ ((k29,Res.obj (Obj.cells #[(iV ((o:Int)))] 191 (0,0))) :: ((k5,Res.obj (Obj.cells #[(iV (0))] 3 (0,0))) :: σ))) (Asg (Fe ([(k29,Res.obj (Obj.cells #[(iV ((o:Int)))] 191 (0,0))),(k5,Res.obj (Obj.cells #[(iV (0))] 3 (0,0)))]) pfx33 σ)) ?_
  apply Ac
  refine ⟨rfl,rfl,Ash,_,rfl,?_⟩
  intro pfy33
  refine Aj (σ':=((k29,Res.obj (Obj.cells #[(iV ((o:Int)))] 191 (0,0))) :: ((k5,Res.obj (Obj.cells #[(iV (0))] 3 (0,0))) :: (pfy33 ++ σ)))) (Asg (Fe pfy33 ([(k29,Res.obj (Obj.cells #[(iV ((o:Int)))] 191 (0,0))),(k5,Res.obj (Obj.cells #[(iV (0))] 3 (0,0)))]) σ)) ?_
  refine Ao ?_
  refine Ai fun K34 k34=>?_
  refine Dc [0,1,2,3,4,5,6,7,8,9,10,11] (by kernel_rfl) rfl rfl ?_
  refine Cd (i:=3) [o0,o0,o0,o1,o0,o0,o0,o0,o0,o0,o0,o0] rfl (by kernel_rfl) rfl Ash rfl (Ax Sc rfl r2) fun v35 r35=>?_
  replace r35:=Ir.1 r35
  refine Bd (i:=4) [o0,o0,o0,o1,o1,o0,o0,o0,o0,o0,o0,o0] rfl (by kernel_rfl) rfl Ash rfl (Hj rfl r35) ?_
  refine Cd (i:=5) [o0,o0,o0,o1,o1,o1,o0,o0,o0,o0,o0,o0] rfl (by kernel_rfl) rfl Ash rfl (Ay Bench.f_probes Tryz.underlying258 rfl rfl Wl (by decide) rfl r35) fun v36 r36=>?_
  refine Cd (i:=6) [o0,o0,o0,o1,o1,o1,o1,o0,o0,o0,o0,o0] rfl (by kernel_rfl) rfl Ash rfl (Ax Wl rfl r36) fun v37 r37=>?_
  have ⟨g38a,g38b⟩:=At.rng r3
  refine Bd (i:=7) [o0,o0,o0,o1,o1,o1,o1,o1,o0,o0,o0,o0] rfl (by kernel_rfl) rfl Ash rfl (Bc ty3 rfl r3) ?_
  obtain ⟨a40,ha40⟩:=Ed (xs:=l.tests.map Dr) (i:=(test).toNat) (by omega)
  obtain ⟨t41,ht41,hp41⟩:=Adf ha40
  subst hp41
  obtain ⟨hs41,hk41⟩:=Rf hl ht41
  have hb1_41:=Qj (t:=t41) (b:=1) (by omega)
  have hb0_41:=Qj (t:=t41) (b:=0) (by omega)
  refine Cd (i:=8) [o0,o0,o0,o1,o1,o1,o1,o1,o1,o0,o0,o0] rfl (by kernel_rfl) rfl Ash rfl (Ch ((test).toNat) Tryz.underlying255 Un rfl r37 (q:=test) rfl (by omega) ha40) fun v39 r39=>?_
  refine Cd (i:=9) [o0,o0,o0,o1,o1,o1,o1,o1,o1,o1,o0,o0] rfl (by kernel_rfl) rfl Ash rfl (Ax Un rfl r39) fun v42 r42=>?_
  refine Bd (i:=10) [o0,o0,o0,o1,o1,o1,o1,o1,o1,o1,o1,o0] rfl (by kernel_rfl) rfl Ash rfl (Ah (v:=(iV ((a33:Int)))) rfl) ?_
  refine Dj (i:=0) [o1,o0,o0,o1,o1,o1,o1,o1,o1,o1,o1,o0] rfl (by kernel_rfl) rfl rfl (Dt (i:=1) (v:=(iV (0))) ⟨_,Tryz.underlying3,rfl⟩ rfl rfl rfl ⟨Ash,?_⟩)
  refine Bg (i:=1) [o1,o1,o0,o1,o1,o1,o1,o1,o1,o1,o1,o0] rfl (by kernel_rfl) rfl Ash rfl (Cq (k':=1) 0 Tryz.underlying260 ⟨_,Ab Tryz.typeInfo259,rfl⟩ rfl (q:=0) rfl rfl (by decide) (off':=0) rfl) ?_
  obtain ⟨tt43,fz43,hgl43⟩:=hg.can
  refine Bg (i:=2) zZ0 rfl (by kernel_rfl) rfl Ash rfl (Aae (v:=(.func (.func 209) #[] #[])) ⟨_,Tryz.underlying259,rfl⟩ rfl hgl43 rfl) ?_
  refine Dj (i:=11) zZ1 rfl (by kernel_rfl) rfl rfl (Ur (caps:=[]) (vs:=[v42,(iV ((a33:Int)))]) (v:=(.bool (Qa (Gk t41 1) a33))) rfl (Ahd (er:=t41.errs) (a:=Gk t41 1) (u:=Gk t41 0) r42 (by omega) (by omega) (by omega)) Tryz.func209 rfl rfl ⟨rfl,rfl,trivial⟩ ⟨Ash,?_⟩)
  refine Ec rfl ?_
  apply k34
  refine As (t:=Qa (Gk t41 1) a33) rfl (fun b44=>?_) (fun b44=>?_)
  ·refine Aab ?_
   refine Dc [0,1,2,3,4] (by kernel_rfl) rfl rfl ?_
   refine Bd (i:=1) [o0,o1,o0,o0,o0] rfl (by kernel_rfl) rfl Ash rfl (Ah (v:=(iV ((a33:Int)))) rfl) ?_
   refine Bd (i:=2) [o0,o1,o1,o0,o0] rfl (by kernel_rfl) rfl Ash rfl (Md (p:=1) (q:=a33) rfl rfl rfl (by omega) (z:=(((1 <<< a33):Nat):Int)) (Bo rfl (by omega) (by omega))) ?_
   refine Dj (i:=0) [o1,o1,o1,o0,o0] rfl (by kernel_rfl) rfl rfl (Dt (i:=0) (v:=(iV ((o:Int)))) ⟨_,Tryz.underlying191,rfl⟩ rfl rfl rfl ⟨Ash,?_⟩)
   refine Bg (i:=3) [o1,o1,o1,o1,o0] rfl (by kernel_rfl) rfl Ash rfl (Acj (p:=o) (q:=(1 <<< a33)) rfl rfl (by omega) (by omega)) ?_
   refine Fg (i:=4) [o1,o1,o1,o1,o1] rfl (by kernel_rfl) rfl rfl (Cz (j:=0) (v:=(iV ((((o ||| (1 <<< a33)):Nat):Int)))) ⟨_,Ab Tryz.typeInfo191,rfl⟩ rfl rfl rfl rfl (Nat.le_of_ble_eq_true rfl) ⟨Ash,?_⟩)
   refine Ec rfl ?_
   show Vl _ .normal _ _ _ _
   refine Yn (σ':=pfy33 ++ ((k29,Res.obj (Obj.cells #[(iV ((((o ||| (1 <<< a33)):Nat):Int)))] 191 (0,0))) :: ((k5,Res.obj (Obj.cells #[(iV (0))] 3 (0,0))) :: σ))) (Asg (Fe ([(k29,Res.obj (Obj.cells #[(iV ((((o ||| (1 <<< a33)):Nat):Int)))] 191 (0,0))),(k5,Res.obj (Obj.cells #[(iV (0))] 3 (0,0)))]) pfy33 σ)) ?_
   refine Adc ?_
   refine ⟨rfl,Ash,_,rfl,l1 ++ [a33],((o ||| (1 <<< a33))),(by simp),rfl,(by rw [Gb,(show Px l ⟨test,found⟩ a33 = true from (Xe (r:=⟨test,found⟩) ht41).trans (by rw [b8,← Ty]; exact b44)),if_pos rfl,← p33_0]),(Nat.or_lt_two_pow (n:=16) (by omega) (by omega)),trivial⟩
  refine Aj (σ':=pfy33 ++ ((k29,Res.obj (Obj.cells #[(iV ((o:Int)))] 191 (0,0))) :: ((k5,Res.obj (Obj.cells #[(iV (0))] 3 (0,0))) :: σ))) (Asg (Fe ([(k29,Res.obj (Obj.cells #[(iV ((o:Int)))] 191 (0,0))),(k5,Res.obj (Obj.cells #[(iV (0))] 3 (0,0)))]) pfy33 σ)) ?_
  refine Al ?_
  refine ⟨rfl,Ash,_,rfl,l1 ++ [a33],(o),(by simp),rfl,(by rw [Gb,(show Px l ⟨test,found⟩ a33 = false from (Xe (r:=⟨test,found⟩) ht41).trans (by rw [b8,← Ty]; exact b44)),if_neg (by simp),← p33_0]),(by omega),trivial⟩
 ·rintro k45 ρ45 _ l45 ⟨l1,o,hpre45,rfl,p33_0,p33_1,_⟩
  obtain rfl:=Nf Yi hpre45
  apply k30
  refine w_q rfl rfl fun K46 k46=>?_
  refine Arv (Dt (i:=1) (v:=(iV ((o:Int)))) ⟨_,Tryz.underlying191,rfl⟩ rfl rfl rfl ?_)
  refine l_v (Cp (v:=(iV ((o:Int)))) rfl) ?_
  refine l_k k46 ?_
  refine Aj (Asg Arz) ?_
  refine Aj Ghost.drop ?_
  refine Aj (Asg Arz) ?_
  refine Aj Ghost.drop ?_
  refine Aj (Asf (Asi (Asi (Asi l2 l3) l32) l45)) ?_
  refine Aq ?_
  refine hret _ _ _ _ ?_
  refine ⟨rfl,rfl,Eq.trans (b:=(iV ((o:Int)))) rfl ?_⟩
  rw [p33_0]; rfl
set_option maxRecDepth 100000 in
theorem Te {mn:Bool} {X:Frame→List Frame→Ro→Own→Cy→Prop} {ρ:Ro} {σ:Own} {s:Nat} (hs:s < 65536):CallsH (CX mn X) 88 #[(iV ((s:Int)))] ρ σ (fun w ρ' σ'=>ρ' = ρ∧σ' = σ∧w = (.bool (Ea (Bw (Av s))))):=by
 refine Bh (n:=10) (args:=[(iV ((s:Int)))]) [2] Tryz.func88 rfl rfl rfl rfl fun Q hret hnor=>?_
 refine w_q rfl rfl fun K1 k1=>?_
 refine l_v (Cp (v:=(.bool (false))) rfl) ?_
 refine Arx rfl rfl k1 fun K2 k2=>?_
 refine l_v (Ah (v:=(iV ((s:Int)))) rfl) ?_
 refine l_v (Qs (p:=s) (q:=1) rfl rfl (by omega)) ?_
 refine l_v (Ek rfl rfl) ?_
 refine l_v (Ah (v:=(.bool ((((s &&& 1):Nat):Int) == 0))) rfl) ?_
 refine Cn ((((s &&& 1):Nat):Int) == 0) (fun b3=>?_) (fun b3=>?_)
 ·have q3:=Jr b3
  refine Ap (Bl rfl rfl rfl b3) ?_
  refine Ap (Bl rfl rfl rfl b3) ?_
  refine l_v (Bt rfl b3 (v:=(.bool (true))) rfl) ?_
  refine l_v (Cp (v:=(.bool (true))) rfl) ?_
  refine l_k k2 ?_
  refine Aq ?_
  refine hret _ _ _ ⟨rfl,rfl,Eq.trans (b:=(.bool (true))) rfl ?_⟩
  rw [← Qk hs,b3]; rfl
 have q3:=Jq b3
 refine l_M (iV ((s:Int))) (Ar rfl rfl rfl b3) rfl ?_
 refine Aa (Ar rfl rfl rfl b3) (Ek rfl rfl) ?_
 refine l_v (Bn rfl b3 (v:=(.bool ((s:Int) == 1))) rfl) ?_
 refine l_v (Cp (v:=(.bool ((s:Int) == 1))) rfl) ?_
 refine l_k k2 ?_
 refine Aq ?_
 refine hret _ _ _ ⟨rfl,rfl,Eq.trans (b:=(.bool ((s:Int) == 1))) rfl ?_⟩
 rw [← Qk hs,b3,Bool.false_or]
set_option maxRecDepth 100000 in
theorem Ahg {mn:Bool} {X:Frame→List Frame→Ro→Own→Cy→Prop} {ρ:Ro} {σ:Own} {l:Lab} {vb vr:Value} {rm:Nat} {rs:List Found} (hg:Glob ρ) (rb:At ρ vb (⟨l.tests.map Dr,((Bf (Hr l):Nat):Int),⟨rm⟩⟩:Bench)) (rr:Val ρ vr rs) (hl:Gh l = 0) (hrs:ResOk l rs):CallsH (CX mn X) 133 #[vb,vr] ρ σ (fun w ρ' σ'=>ρ' = ρ∧σ' = σ∧w = (iV (((Bf (Ba l rs):Nat):Int)))):=by
 have ok:=Ll hl
 refine Bh (n:=27) (args:=[vb,vr]) [4] Tryz.func133 rfl rfl rfl rfl fun Q hret hnor=>?_
 refine w_q rfl rfl fun K1 k1=>?_
 refine l_v (Cp (v:=(iV (0))) rfl) ?_
 refine Arx rfl rfl k1 fun K2 k2=>?_
 refine l_v (Ah (v:=vb) rfl) ?_
 refine l_v (Hj rfl rb) ?_
 refine Arw (Ay Bench.f_all Tryz.underlying258 rfl rfl Jg (by decide) rfl rb) fun v3 r3=>?_
 have ⟨g4a,g4b⟩:=At.rng r3
 refine l_v (Bc Jg rfl r3) ?_
 refine l_v (Cp (v:=(iV (((Bf (Hr l):Nat):Int)))) rfl) ?_
 refine Ary rfl rfl k2 fun K5 K6 k5 k6=>?_
 refine l_v (Ah (v:=vr) rfl) ?_
 have g7:=Val.len rr
 refine l_v (Ci (el:=112) Tryz.underlying113 rfl rr) ?_
 refine l_v (Ah (v:=(iV (0))) rfl) ?_
 refine l_k k6 ?_
 refine Ao ?_
 refine Cc (fun mm ee dd ρ' σ'=>∃ (i:Nat) (x:Nat),(rs.length - i) = mm∧[] = dd∧ρ = ρ'∧σ = σ'∧ee 0 = vb∧ee 12 = vr∧ee 13 = (iV (((rs.length:Nat):Int)))∧ee 5 = (iV ((x:Int)))∧ee 14 = (iV ((i:Int)))∧(i ≤ rs.length)∧(x = Bf (Ba l (rs.take i)))∧(x < 65536)∧True) (m:=_) ⟨0,Bf (Hr l),rfl,rfl,rfl,rfl,rfl,rfl,rfl,rfl,rfl,(Nat.zero_le _),rfl,(Jw (rs:=[]) ok),trivial⟩ ?_
 rintro m8 e8 _ _ _ ⟨i,x,rfl,rfl,rfl,rfl,h8_0,h8_12,h8_13,h8_5,h8_14,p8_0,p8_1,p8_2,_⟩
 refine w_q rfl rfl fun K9 k9=>?_
 refine l_v (Da h8_14 h8_13) ?_
 refine Asa k9 fun K10 k10=>?_
 refine As (t:=decide ((i:Int) < ((rs.length:Nat):Int))) rfl (fun b11=>?_) (fun b11=>?_)
 ·have q11:=of_decide_eq_true b11
  refine Al ?_
  apply k10
  refine Ai fun K12 k12=>?_
  refine Ao ?_
  refine w_q rfl rfl fun K13 k13=>?_
  obtain ⟨a15,ha15⟩:=Ed (xs:=rs) (i:=i) (by omega)
  have hr_a15:=hrs _ _ ha15
  refine Arw (Ch i Tryz.underlying113 Aby h8_12 rr (q:=(i:Int)) h8_14 rfl ha15) fun v14 r14=>?_
  refine Arw (Ax Aby rfl r14) fun v16 r16=>?_
  refine Arv (Ct Akf fun k17=>?_)
  refine Cx rfl (Dv (v:=v16) (a:=a15) (c:=Aml) Aby rfl rfl r16 rfl ?_)
  refine Bb (a:=a15) r16 fun ρ18 l18 r18=>?_
  replace rb:=At.mono l18 rb
  replace hg:=Glob.mono l18 hg
  refine l_k k13 ?_
  refine Ag rfl rfl ?_
  refine l_v (Ah (v:=vb) h8_0) ?_
  refine l_v (Ah (v:=(iV ((x:Int)))) h8_5) ?_
  refine Arw (Ay Found.f_test Tryz.underlying112 rfl rfl ty3 (by decide) rfl r18) fun v19 r19=>?_
  have ⟨g20a,g20b⟩:=At.rng r19
  refine l_v (Bc ty3 rfl r19) ?_
  refine Arw (Ay Found.f_found Tryz.underlying112 rfl rfl ty4 (by decide) rfl r18) fun v21 r21=>?_
  refine l_v (Nx ty4 rfl r21) ?_
  refine Arv (Bm (Pp hg rb hl (by omega) (by omega)) Tryz.func90 rfl rfl ⟨rfl,rfl,rfl,rfl,trivial⟩ ?_)
  refine l_v (Cp (v:=(iV (((Bf (Au l (Av x) ⟨a15.test,a15.found⟩):Nat):Int)))) rfl) ?_
  refine l_k k12 ?_
  refine Ag rfl rfl ?_
  refine l_v (Br h8_14 rfl (z:=(((i + 1):Nat):Int)) (Bo (by first | rfl | omega | (push_cast; rfl)) (by omega) (by omega))) ?_
  refine l_v (Ah (v:=(iV ((((i + 1):Nat):Int)))) rfl) ?_
  refine Bj (Asf l18) ?_
  apply Ac
  refine ⟨_,?_,((i + 1)),(Bf (Au l (Av x) ⟨a15.test,a15.found⟩)),rfl,rfl,rfl,rfl,h8_0,h8_12,h8_13,rfl,rfl,(by omega),(by rw [p8_1,Fp ok,Yz ha15]),(by rw [p8_1,Fp ok]; exact Sl (n:=16) fun a ha=>(Abw (Aan (Rz ok))).1 a ha),trivial⟩
  omega
 have q11:=of_decide_eq_false b11
 refine Bx ?_
 apply k5
 refine w_q rfl rfl fun K23 k23=>?_
 refine l_v (Ah (v:=(iV ((x:Int)))) h8_5) ?_
 refine l_v (Cp (v:=(iV ((x:Int)))) rfl) ?_
 refine l_k k23 ?_
 refine Aq ?_
 refine hret _ _ _ ⟨rfl,rfl,Eq.trans (b:=(iV ((x:Int)))) rfl ?_⟩
 rw [p8_1,List.take_of_length_le (by omega)]
set_option maxRecDepth 100000 in
theorem And {mn:Bool} {X:Frame→List Frame→Ro→Own→Cy→Prop} {ρ:Ro} {σ:Own} {l:Lab} {vl:Value} (rl:Val ρ vl l) (hl:Gh l = 0):CallsH (CX mn X) 169 #[vl] ρ σ (fun w ρ' σ'=>Ro.le ρ ρ'∧∃ rm,σ' = (rm,.obj (.map #[] 0)) :: σ∧At ρ' w (⟨l.tests.map Dr,((Bf (Hr l):Nat):Int),⟨rm⟩⟩:Bench)):=by
 have ok:=Ll hl
 have hk4:=ok.n4
 have hnt5:=ok.ntests
 have hksh:=Rn hk4
 have hmost:=ok.most
 refine Bh (n:=96) (args:=[vl]) [2] Tryz.func169 rfl rfl rfl rfl fun Q hret hnor=>?_
 refine w_q rfl rfl fun K1 k1=>?_
 refine Arv (Eb (v:=vl) rfl fun k2=>?_)
 refine Bb (a:=l) rl fun ρ2 l2 r2=>?_
 refine l_v (Cp (v:=(.pointer none)) rfl) ?_
 refine Arx rfl rfl k1 fun K3 k3=>?_
 refine Arv (Oh fun k4=>?_)
 refine l_v (Dn (ns:=[1,1,1]) (vs:=[(2,(.map (some k4)))]) (zc:=Arj) (cs:=[(.slice none 0 0),(iV (0)),(.map (some k4))]) Tryz.underlying258 Aro rfl ⟨⟨_,Ab Tryz.typeInfo255,rfl⟩,⟨_,Ab Tryz.typeInfo191,rfl⟩,⟨_,Ab Tryz.typeInfo256,rfl⟩,trivial⟩ (EvB.map ⟨⟨rfl,rfl⟩,trivial⟩) ((Be (cs:=[(.map (some k4))]) rfl rfl (Nat.le_of_ble_eq_true rfl)).trans rfl)) ?_
 refine Arv (Eb (v:=(.agg #[(.slice none 0 0),(iV (0)),(.map (some k4))])) rfl fun k5=>?_)
 refine l_v (Cp (v:=(.pointer (some ⟨k5,0,none⟩))) rfl) ?_
 refine Ary rfl rfl k3 fun K6 K7 k6 k7=>?_
 refine Arw (Ay Lab.f_tests Tryz.underlying105 rfl rfl Vi (by decide) rfl r2) fun v8 r8=>?_
 refine Arw (Ax Vi rfl r8) fun v9 r9=>?_
 have g10:=Val.len r9
 refine l_v (Ci (el:=189) Tryz.underlying103 rfl r9) ?_
 refine l_v (Ah (v:=(iV (0))) rfl) ?_
 refine l_k k7 ?_
 refine Ao ?_
 refine Cc (fun mm ee dd ρ' σ'=>∃ (i:Nat) (ov11_3c0:Value) (og11_3c0:Own),(l.tests.length - i) = mm∧[] = dd∧Ro.le ρ2 ρ'∧(og11_3c0 ++ ((k5,oC #[ov11_3c0,(iV (0)),(.map (some k4))] 258) :: ((k4,Res.obj (Obj.map #[] 0)) :: σ))) = σ'∧ee 1 = (.pointer (some ⟨k2,0,none⟩))∧ee 3 = (.pointer (some ⟨k5,0,none⟩))∧ee 16 = v9∧ee 17 = (iV (((l.tests.length:Nat):Int)))∧ee 18 = (iV ((i:Int)))∧(i ≤ l.tests.length)∧Grow ρ' 262 ov11_3c0 ((l.tests.take i).map Dr) og11_3c0∧True) (m:=_) ⟨0,(.slice none 0 0),[],rfl,rfl,Ash,rfl,rfl,rfl,rfl,rfl,rfl,(Nat.zero_le _),(Fy (by simp) Hm),trivial⟩ ?_
 rintro m11 e11 _ ρ11 _ ⟨i,ov11_3c0,og11_3c0,rfl,rfl,l11,rfl,h11_1,h11_3,h11_16,h11_17,h11_18,p11_0,OG11_3c0,_⟩
 replace r2:=At.mono l11 r2
 replace r9:=Asj l11 r9
 refine w_q rfl rfl fun K12 k12=>?_
 refine l_v (Da h11_18 h11_17) ?_
 refine Asa k12 fun K13 k13=>?_
 refine As (t:=decide ((i:Int) < ((l.tests.length:Nat):Int))) rfl (fun b14=>?_) (fun b14=>?_)
 ·have q14:=of_decide_eq_true b14
  refine Al ?_
  apply k13
  refine Ai fun K15 k15=>?_
  refine Ao ?_
  refine w_q rfl rfl fun K16 k16=>?_
  obtain ⟨a18,ha18⟩:=Ed (xs:=l.tests) (i:=i) (by omega)
  obtain ⟨hs_a18,hk_a18⟩:=Rf hl ha18
  refine Arw (Ch i Tryz.underlying103 Um h11_16 r9 (q:=(i:Int)) h11_18 rfl ha18) fun v17 r17=>?_
  refine Arw (Ax Um rfl r17) fun v19 r19=>?_
  refine Arv (Ct Ws fun k20=>?_)
  refine Cx rfl (Dv (v:=v19) (a:=a18) (c:=Aag) Um rfl rfl r19 rfl ?_)
  refine Bb (a:=a18) r19 fun ρ21 l21 r21=>?_
  replace OG11_3c0:=Grow.mono l21 OG11_3c0
  refine Arx rfl rfl k16 fun K22 k22=>?_
  refine Arw (Ay FTest.f_errs Tryz.underlying189 rfl rfl ty4 (by decide) rfl r21) fun v23 r23=>?_
  refine l_v (Nx ty4 rfl r23) ?_
  have r25:Val ρ21 (.agg #[(.bool (a18.errs)),(iV (0)),(iV (0))]) (⟨a18.errs,0,0⟩:Probe):=Probe.shut (x:=(⟨a18.errs,0,0⟩:Probe)) (show I64 (0) from by constructor <;> omega) (show I64 (0) from by constructor <;> omega)
  refine l_v (Dn (ns:=[1,1,1]) (vs:=[(0,(.bool (a18.errs)))]) (zc:=Ark) (cs:=[(.bool (a18.errs)),(iV (0)),(iV (0))]) Tryz.underlying262 Aaj rfl ⟨⟨_,Ab Tryz.typeInfo4,rfl⟩,⟨_,Ab Tryz.typeInfo195,rfl⟩,⟨_,Ab Tryz.typeInfo195,rfl⟩,trivial⟩ (EvB.map ⟨⟨rfl,rfl⟩,trivial⟩) ((Be (cs:=[(.bool (a18.errs))]) rfl rfl (Nat.le_of_ble_eq_true rfl)).trans rfl)) ?_
  refine Arv (Ct Aaj fun k26=>?_)
  refine Cx rfl (Li (i:=0) (vs:=[(.bool (a18.errs)),(iV (0)),(iV (0))]) (c':=[(.bool (a18.errs)),(iV (0)),(iV (0))]) ⟨_,Ab Tryz.typeInfo262,rfl⟩ rfl rfl rfl rfl (Zh ⟨rfl,rfl,rfl,trivial⟩) rfl (Nat.le_of_ble_eq_true rfl) rfl ?_)
  refine Ary rfl rfl k22 fun K27 K28 k27 k28=>?_
  refine Arw (Ay FTest.f_sees Tryz.underlying189 rfl rfl Afp (by decide) rfl r21) fun v29 r29=>?_
  refine Arw (Ax Afp rfl r29) fun v30 r30=>?_
  have g31:=Val.len r30
  refine l_v (Ci (el:=124) Tryz.underlying108 rfl r30) ?_
  refine l_v (Ah (v:=(iV (0))) rfl) ?_
  refine l_k k28 ?_
  refine Ao ?_
  refine Cc (fun mm ee dd ρ' σ'=>∃ (k:Nat) (a:Nat) (u:Nat),(a18.sees.length - k) = mm∧[] = dd∧ρ21 = ρ'∧((k26,oC #[(.bool (a18.errs)),(iV ((a:Int))),(iV ((u:Int)))] 262) :: (og11_3c0 ++ ((k5,oC #[ov11_3c0,(iV (0)),(.map (some k4))] 258) :: ((k4,Res.obj (Obj.map #[] 0)) :: σ)))) = σ'∧ee 1 = (.pointer (some ⟨k2,0,none⟩))∧ee 3 = (.pointer (some ⟨k5,0,none⟩))∧ee 6 = (.pointer (some ⟨k26,0,none⟩))∧ee 16 = v9∧ee 17 = (iV (((l.tests.length:Nat):Int)))∧ee 18 = (iV ((i:Int)))∧ee 26 = v30∧ee 27 = (iV (((a18.sees.length:Nat):Int)))∧ee 28 = (iV ((k:Int)))∧(k ≤ a18.sees.length)∧(a = Bf ((List.range k).filter (Qi a18 1)))∧(u = Bf ((List.range k).filter (Qi a18 0)))∧(a < 16∧u < 16)∧True) (m:=_) ⟨0,0,0,rfl,rfl,rfl,rfl,h11_1,h11_3,rfl,h11_16,h11_17,h11_18,rfl,rfl,rfl,(Nat.zero_le _),rfl,rfl,(by omega),trivial⟩ ?_
  rintro m32 e32 _ _ _ ⟨k,a,u,rfl,rfl,rfl,rfl,h32_1,h32_3,h32_6,h32_16,h32_17,h32_18,h32_26,h32_27,h32_28,p32_0,p32_1,p32_2,p32_3,_⟩
  refine w_q rfl rfl fun K33 k33=>?_
  refine l_v (Da h32_28 h32_27) ?_
  refine Asa k33 fun K34 k34=>?_
  refine As (t:=decide ((k:Int) < ((a18.sees.length:Nat):Int))) rfl (fun b35=>?_) (fun b35=>?_)
  ·have hsk:=Apx (k:=k) (by have:=of_decide_eq_true b35; omega)
   have q35:=of_decide_eq_true b35
   refine Al ?_
   apply k34
   refine Ai fun K36 k36=>?_
   refine Ao ?_
   refine w_q rfl rfl fun K37 k37=>?_
   refine l_v (Ah (v:=(iV ((k:Int)))) h32_28) ?_
   obtain ⟨a39,ha39⟩:=Ed (xs:=a18.sees) (i:=k) (by omega)
   have hb_a39:=hs_a18 _ _ ha39
   refine Arw (Ch k Tryz.underlying108 Pi h32_26 r30 (q:=(k:Int)) h32_28 rfl ha39) fun v38 r38=>?_
   have ⟨g40a,g40b⟩:=At.rng r38
   refine l_v (Bc Pi rfl r38) ?_
   refine l_v (Cp (v:=(iV ((k:Int)))) rfl) ?_
   refine l_v (Cp (v:=(iV (a39))) rfl) ?_
   refine Arx rfl rfl k37 fun K41 k41=>?_
   refine l_v (Ah (v:=(iV (a39))) rfl) ?_
   refine l_k k41 ?_
   refine Ao ?_
   refine w_q rfl rfl fun K42 k42=>?_
   refine l_v (Ek rfl rfl) ?_
   refine l_v (Cp (v:=(.bool (a39 == 1))) rfl) ?_
   refine l_k k42 ?_
   refine As (t:=a39 == 1) rfl (fun b43=>?_) (fun b43=>?_)
   ·have q43:=Jr b43
    refine Dc [0,1,2,3,4,5,6] (by kernel_rfl) rfl rfl ?_
    refine Bd (i:=0) Apb rfl (by kernel_rfl) rfl Ash rfl (Cb Tryz.underlying262 rfl rfl ⟨_,Ab Tryz.typeInfo195,rfl⟩ (by decide) h32_6 rfl) ?_
    refine Bd (i:=2) [o1,o0,o1,o0,o0,o0,o0] rfl (by kernel_rfl) rfl Ash rfl (Ah (v:=(iV ((k:Int)))) rfl) ?_
    refine Bd (i:=3) [o1,o0,o1,o1,o0,o0,o0] rfl (by kernel_rfl) rfl Ash rfl (Md (p:=1) (q:=k) rfl rfl rfl (by omega) (z:=(((1 <<< k):Nat):Int)) (Bo rfl (by omega) (by omega))) ?_
    refine Dj (i:=1) Apc rfl (by kernel_rfl) rfl rfl (Dt (i:=0) (v:=(iV ((a:Int)))) ⟨_,Tryz.underlying195,rfl⟩ rfl rfl rfl ⟨Ash,?_⟩)
    refine Bg (i:=4) Apd rfl (by kernel_rfl) rfl Ash rfl (Acj (p:=a) (q:=(1 <<< k)) rfl rfl (by omega) (by omega)) ?_
    refine Bg (i:=5) Ape rfl (by kernel_rfl) rfl Ash rfl (Cb Tryz.underlying262 rfl rfl ⟨_,Ab Tryz.typeInfo195,rfl⟩ (by decide) h32_6 rfl) ?_
    refine Fg (i:=6) Apf rfl (by kernel_rfl) rfl rfl (Cz (j:=0) (v:=(iV ((((a ||| (1 <<< k)):Nat):Int)))) ⟨_,Ab Tryz.typeInfo195,rfl⟩ rfl rfl rfl rfl (Nat.le_of_ble_eq_true rfl) ⟨Ash,?_⟩)
    refine Ec rfl ?_
    apply k36
    refine Ag rfl rfl ?_
    refine l_v (Br h32_28 rfl (z:=(((k + 1):Nat):Int)) (Bo (by first | rfl | omega | (push_cast; rfl)) (by omega) (by omega))) ?_
    refine l_v (Ah (v:=(iV ((((k + 1):Nat):Int)))) rfl) ?_
    apply Ac
    refine ⟨_,?_,((k + 1)),((a ||| (1 <<< k))),(u),rfl,rfl,rfl,rfl,h32_1,h32_3,h32_6,h32_16,h32_17,h32_18,h32_26,h32_27,rfl,(by omega),(by rw [Ma ha39,if_pos (by omega),← p32_1]),(by rw [Ma ha39,if_neg (by omega),← p32_2]),⟨(Nat.or_lt_two_pow (n:=4) p32_3.1 hsk.2),p32_3.2⟩,trivial⟩
    omega
   have q43:=Jq b43
   refine w_q rfl rfl fun K44 k44=>?_
   refine l_v (Ek rfl rfl) ?_
   refine l_v (Cp (v:=(.bool (a39 == 0))) rfl) ?_
   refine l_k k44 ?_
   refine As (t:=a39 == 0) rfl (fun b45=>?_) (fun b45=>?_)
   ·have q45:=Jr b45
    refine Dc [0,1,2,3,4,5,6] (by kernel_rfl) rfl rfl ?_
    refine Bd (i:=0) Apb rfl (by kernel_rfl) rfl Ash rfl (Cb Tryz.underlying262 rfl rfl ⟨_,Ab Tryz.typeInfo195,rfl⟩ (by decide) h32_6 rfl) ?_
    refine Bd (i:=2) [o1,o0,o1,o0,o0,o0,o0] rfl (by kernel_rfl) rfl Ash rfl (Ah (v:=(iV ((k:Int)))) rfl) ?_
    refine Bd (i:=3) [o1,o0,o1,o1,o0,o0,o0] rfl (by kernel_rfl) rfl Ash rfl (Md (p:=1) (q:=k) rfl rfl rfl (by omega) (z:=(((1 <<< k):Nat):Int)) (Bo rfl (by omega) (by omega))) ?_
    refine Dj (i:=1) Apc rfl (by kernel_rfl) rfl rfl (Dt (i:=0) (v:=(iV ((u:Int)))) ⟨_,Tryz.underlying195,rfl⟩ rfl rfl rfl ⟨Ash,?_⟩)
    refine Bg (i:=4) Apd rfl (by kernel_rfl) rfl Ash rfl (Acj (p:=u) (q:=(1 <<< k)) rfl rfl (by omega) (by omega)) ?_
    refine Bg (i:=5) Ape rfl (by kernel_rfl) rfl Ash rfl (Cb Tryz.underlying262 rfl rfl ⟨_,Ab Tryz.typeInfo195,rfl⟩ (by decide) h32_6 rfl) ?_
    refine Fg (i:=6) Apf rfl (by kernel_rfl) rfl rfl (Cz (j:=0) (v:=(iV ((((u ||| (1 <<< k)):Nat):Int)))) ⟨_,Ab Tryz.typeInfo195,rfl⟩ rfl rfl rfl rfl (Nat.le_of_ble_eq_true rfl) ⟨Ash,?_⟩)
    refine Ec rfl ?_
    apply k36
    refine Ag rfl rfl ?_
    refine l_v (Br h32_28 rfl (z:=(((k + 1):Nat):Int)) (Bo (by first | rfl | omega | (push_cast; rfl)) (by omega) (by omega))) ?_
    refine l_v (Ah (v:=(iV ((((k + 1):Nat):Int)))) rfl) ?_
    apply Ac
    refine ⟨_,?_,((k + 1)),(a),((u ||| (1 <<< k))),rfl,rfl,rfl,rfl,h32_1,h32_3,h32_6,h32_16,h32_17,h32_18,h32_26,h32_27,rfl,(by omega),(by rw [Ma ha39,if_neg (by omega),← p32_1]),(by rw [Ma ha39,if_pos (by omega),← p32_2]),⟨p32_3.1,(Nat.or_lt_two_pow (n:=4) p32_3.2 hsk.2)⟩,trivial⟩
    omega
   have q45:=Jq b45
   refine Al ?_
   apply k36
   refine Ag rfl rfl ?_
   refine l_v (Br h32_28 rfl (z:=(((k + 1):Nat):Int)) (Bo (by first | rfl | omega | (push_cast; rfl)) (by omega) (by omega))) ?_
   refine l_v (Ah (v:=(iV ((((k + 1):Nat):Int)))) rfl) ?_
   apply Ac
   refine ⟨_,?_,((k + 1)),(a),(u),rfl,rfl,rfl,rfl,h32_1,h32_3,h32_6,h32_16,h32_17,h32_18,h32_26,h32_27,rfl,(by omega),(by rw [Ma ha39,if_neg (by omega),← p32_1]),(by rw [Ma ha39,if_neg (by omega),← p32_2]),⟨p32_3.1,p32_3.2⟩,trivial⟩
   omega
  have q35:=of_decide_eq_false b35
  refine Bx ?_
  apply k27
  refine Dc [0,1,2,3,4,5,6,7,8,9,10] (by kernel_rfl) rfl rfl ?_
  refine Bd (i:=0) [o1,o0,o0,o0,o0,o0,o0,o0,o0,o0,o0] rfl (by kernel_rfl) rfl Ash rfl (Ah (v:=(.pointer (some ⟨k5,0,none⟩))) h32_3) ?_
  refine Bd (i:=1) [o1,o1,o0,o0,o0,o0,o0,o0,o0,o0,o0] rfl (by kernel_rfl) rfl Ash rfl (Ah (v:=(.pointer (some ⟨k5,0,none⟩))) h32_3) ?_
  refine Bd (i:=2) [o1,o1,o1,o0,o0,o0,o0,o0,o0,o0,o0] rfl (by kernel_rfl) rfl Ash rfl (Ck rfl) ?_
  refine Bd (i:=3) [o1,o1,o1,o1,o0,o0,o0,o0,o0,o0,o0] rfl (by kernel_rfl) rfl Ash rfl (Cb Tryz.underlying258 rfl rfl ⟨_,Ab Tryz.typeInfo255,rfl⟩ (by decide) rfl rfl) ?_
  refine Ej (Asg ((p_c Asd).trans Arz)) id ?_
  refine Acq (i:=4) (j:=5) [o1,o1,o1,o1,o1,o0,o0,o0,o0,o0,o0] [o1,o1,o1,o1,o0,o1,o0,o0,o0,o0,o0] rfl rfl (by kernel_rfl) rfl rfl rfl rfl ?_ ?_
  ·refine Dt (i:=0) (v:=ov11_3c0) ⟨_,Tryz.underlying255,rfl⟩ rfl rfl rfl ⟨Ash,?_⟩
   refine Dj (i:=5) Aop rfl (by kernel_rfl) rfl rfl (Xo (i:=1) (cs:=[(.bool (a18.errs)),(iV ((a:Int))),(iV ((u:Int)))]) (rs:=[]) ⟨_,Tryz.underlying262,rfl⟩ ⟨_,Ab Tryz.typeInfo262,rfl⟩ h32_6 rfl rfl rfl ⟨Ash,?_⟩)
   have r46:Val ρ21 (.agg #[(.bool (a18.errs)),(iV ((a:Int))),(iV ((u:Int)))]) (⟨a18.errs,(a:Int),(u:Int)⟩:Probe):=Probe.shut (x:=(⟨a18.errs,(a:Int),(u:Int)⟩:Probe)) (show I64 ((a:Int)) from by constructor <;> omega) (show I64 ((u:Int)) from by constructor <;> omega)
   refine Dj (i:=6) zZ2 rfl (by kernel_rfl) rfl rfl (Bi (α:=Probe) (xs:=[(⟨a18.errs,(a:Int),(u:Int)⟩:Probe)]) (vs:=[(.agg #[(.bool (a18.errs)),(iV ((a:Int))),(iV ((u:Int)))])]) Tryz.underlying255 Un Aaj rfl (by decide) (Dk (os:=[.tmp 56]) ⟨rfl,trivial⟩) ⟨r46,trivial⟩ rfl (by decide) fun k47 cs47 R47=>⟨Ash,?_⟩)
   have G47:Grow ρ21 262 (.slice (some ⟨k47,0,none⟩) 1 1) ([(⟨a18.errs,(a:Int),(u:Int)⟩:Probe)]:List Probe) [(k47,.obj (.cells cs47.toArray 262 (0,0)))]:=Bs R47 rfl (by decide)
   refine Lr G47 fun ρ49 l49 r49=>?_
   replace OG11_3c0:=Grow.mono l49 OG11_3c0
   refine Ej (Asg ((p_c Asc).trans Asc)) id ?_
   refine Dj (i:=7) zZ3 rfl (by kernel_rfl) rfl rfl (Gc (σ:=((k5,oC #[ov11_3c0,(iV (0)),(.map (some k4))] 258) :: ((k26,oC #[(.bool (a18.errs)),(iV ((a:Int))),(iV ((u:Int)))] 262) :: ((k4,Res.obj (Obj.map #[] 0)) :: σ)))) (gr:=og11_3c0) (xs:=(l.tests.take i).map Dr) (ys:=([(⟨a18.errs,(a:Int),(u:Int)⟩:Probe)]:List Probe)) Tryz.underlying255 Tryz.underlying255 (Ab Tryz.typeInfo262) rfl (Nat.le_of_ble_eq_true rfl) rfl rfl rfl rfl OG11_3c0 r49 (by simp only [List.length_append,List.length_cons,List.length_nil,List.length_map,List.length_take] at *; omega) fun v48 gr48 G48=>⟨l49,?_⟩)
   refine Bg (i:=8) zZ4 rfl (by kernel_rfl) rfl l49 rfl (Ck rfl) ?_
   refine Bg (i:=9) zZ5 rfl (by kernel_rfl) rfl l49 rfl (Cb Tryz.underlying258 rfl rfl ⟨_,Ab Tryz.typeInfo255,rfl⟩ (by decide) rfl rfl) ?_
   refine Ej (Asg Asd) id ?_
   refine Fg (i:=10) zZ6 rfl (by kernel_rfl) rfl rfl (Cz (j:=0) (v:=v48) ⟨_,Ab Tryz.typeInfo255,rfl⟩ rfl rfl (Grow.single G48) rfl (Nat.le_of_ble_eq_true rfl) ⟨l49,?_⟩)
   refine Ec rfl ?_
   apply k15
   refine Ag rfl rfl ?_
   refine l_v (Br h32_18 rfl (z:=(((i + 1):Nat):Int)) (Bo (by first | rfl | omega | (push_cast; rfl)) (by omega) (by omega))) ?_
   refine l_v (Ah (v:=(iV ((((i + 1):Nat):Int)))) rfl) ?_
   refine Bj (Asg ((p_c Asd).trans Arz)) ?_
   refine Bj Ghost.drop ?_
   refine Bj (Asg ((p_c Asd).trans Arz)) ?_
   refine Bj (Asg Arz) ?_
   refine Bj (Asg ((p_c Asc).trans Asc)) ?_
   apply Ac
   refine ⟨_,?_,((i + 1)),v48,gr48,rfl,rfl,(Asi (Asi l11 l21) l49),rfl,h32_1,h32_3,h32_16,h32_17,rfl,(by omega),(Fy (by rw [Tw ha18,p32_1,p32_2,show k = a18.sees.length by omega]; rfl) G48),trivial⟩
   omega
  ·refine Xo (i:=1) (cs:=[(.bool (a18.errs)),(iV ((a:Int))),(iV ((u:Int)))]) (rs:=[]) ⟨_,Tryz.underlying262,rfl⟩ ⟨_,Ab Tryz.typeInfo262,rfl⟩ h32_6 rfl rfl rfl ⟨Ash,?_⟩
   have r50:Val ρ21 (.agg #[(.bool (a18.errs)),(iV ((a:Int))),(iV ((u:Int)))]) (⟨a18.errs,(a:Int),(u:Int)⟩:Probe):=Probe.shut (x:=(⟨a18.errs,(a:Int),(u:Int)⟩:Probe)) (show I64 ((a:Int)) from by constructor <;> omega) (show I64 ((u:Int)) from by constructor <;> omega)
   refine Acq (i:=4) (j:=6) Aop [o1,o1,o1,o1,o0,o1,o1,o0,o0,o0,o0] rfl rfl (by kernel_rfl) rfl rfl rfl rfl ?_ ?_
   ·refine Dt (i:=0) (v:=ov11_3c0) ⟨_,Tryz.underlying255,rfl⟩ rfl rfl rfl ⟨Ash,?_⟩
    refine Dj (i:=6) zZ2 rfl (by kernel_rfl) rfl rfl (Bi (α:=Probe) (xs:=[(⟨a18.errs,(a:Int),(u:Int)⟩:Probe)]) (vs:=[(.agg #[(.bool (a18.errs)),(iV ((a:Int))),(iV ((u:Int)))])]) Tryz.underlying255 Un Aaj rfl (by decide) (Dk (os:=[.tmp 56]) ⟨rfl,trivial⟩) ⟨r50,trivial⟩ rfl (by decide) fun k51 cs51 R51=>⟨Ash,?_⟩)
    have G51:Grow ρ21 262 (.slice (some ⟨k51,0,none⟩) 1 1) ([(⟨a18.errs,(a:Int),(u:Int)⟩:Probe)]:List Probe) [(k51,.obj (.cells cs51.toArray 262 (0,0)))]:=Bs R51 rfl (by decide)
    refine Lr G51 fun ρ53 l53 r53=>?_
    replace OG11_3c0:=Grow.mono l53 OG11_3c0
    refine Ej (Asg ((p_c Asc).trans Asc)) id ?_
    refine Dj (i:=7) zZ3 rfl (by kernel_rfl) rfl rfl (Gc (σ:=((k5,oC #[ov11_3c0,(iV (0)),(.map (some k4))] 258) :: ((k26,oC #[(.bool (a18.errs)),(iV ((a:Int))),(iV ((u:Int)))] 262) :: ((k4,Res.obj (Obj.map #[] 0)) :: σ)))) (gr:=og11_3c0) (xs:=(l.tests.take i).map Dr) (ys:=([(⟨a18.errs,(a:Int),(u:Int)⟩:Probe)]:List Probe)) Tryz.underlying255 Tryz.underlying255 (Ab Tryz.typeInfo262) rfl (Nat.le_of_ble_eq_true rfl) rfl rfl rfl rfl OG11_3c0 r53 (by simp only [List.length_append,List.length_cons,List.length_nil,List.length_map,List.length_take] at *; omega) fun v52 gr52 G52=>⟨l53,?_⟩)
    refine Bg (i:=8) zZ4 rfl (by kernel_rfl) rfl l53 rfl (Ck rfl) ?_
    refine Bg (i:=9) zZ5 rfl (by kernel_rfl) rfl l53 rfl (Cb Tryz.underlying258 rfl rfl ⟨_,Ab Tryz.typeInfo255,rfl⟩ (by decide) rfl rfl) ?_
    refine Ej (Asg Asd) id ?_
    refine Fg (i:=10) zZ6 rfl (by kernel_rfl) rfl rfl (Cz (j:=0) (v:=v52) ⟨_,Ab Tryz.typeInfo255,rfl⟩ rfl rfl (Grow.single G52) rfl (Nat.le_of_ble_eq_true rfl) ⟨l53,?_⟩)
    refine Ec rfl ?_
    apply k15
    refine Ag rfl rfl ?_
    refine l_v (Br h32_18 rfl (z:=(((i + 1):Nat):Int)) (Bo (by first | rfl | omega | (push_cast; rfl)) (by omega) (by omega))) ?_
    refine l_v (Ah (v:=(iV ((((i + 1):Nat):Int)))) rfl) ?_
    refine Bj (Asg ((p_c Asd).trans Arz)) ?_
    refine Bj Ghost.drop ?_
    refine Bj (Asg ((p_c Asd).trans Arz)) ?_
    refine Bj (Asg Arz) ?_
    refine Bj (Asg ((p_c Asc).trans Asc)) ?_
    apply Ac
    refine ⟨_,?_,((i + 1)),v52,gr52,rfl,rfl,(Asi (Asi l11 l21) l53),rfl,h32_1,h32_3,h32_16,h32_17,rfl,(by omega),(Fy (by rw [Tw ha18,p32_1,p32_2,show k = a18.sees.length by omega]; rfl) G52),trivial⟩
    omega
   ·refine Bi (α:=Probe) (xs:=[(⟨a18.errs,(a:Int),(u:Int)⟩:Probe)]) (vs:=[(.agg #[(.bool (a18.errs)),(iV ((a:Int))),(iV ((u:Int)))])]) Tryz.underlying255 Un Aaj rfl (by decide) (Dk (os:=[.tmp 56]) ⟨rfl,trivial⟩) ⟨r50,trivial⟩ rfl (by decide) fun k54 cs54 R54=>⟨Ash,?_⟩
    have G54:Grow ρ21 262 (.slice (some ⟨k54,0,none⟩) 1 1) ([(⟨a18.errs,(a:Int),(u:Int)⟩:Probe)]:List Probe) [(k54,.obj (.cells cs54.toArray 262 (0,0)))]:=Bs R54 rfl (by decide)
    refine Ej (Asg Arz) id ?_
    refine Dj (i:=4) zZ2 rfl (by kernel_rfl) rfl rfl (Dt (i:=0) (v:=ov11_3c0) ⟨_,Tryz.underlying255,rfl⟩ rfl rfl rfl ⟨Ash,?_⟩)
    refine Ej (Asg Arz) id ?_
    refine Lr G54 fun ρ56 l56 r56=>?_
    replace OG11_3c0:=Grow.mono l56 OG11_3c0
    refine Ej (Asg ((p_c Asc).trans Asc)) id ?_
    refine Dj (i:=7) zZ3 rfl (by kernel_rfl) rfl rfl (Gc (σ:=((k5,oC #[ov11_3c0,(iV (0)),(.map (some k4))] 258) :: ((k26,oC #[(.bool (a18.errs)),(iV ((a:Int))),(iV ((u:Int)))] 262) :: ((k4,Res.obj (Obj.map #[] 0)) :: σ)))) (gr:=og11_3c0) (xs:=(l.tests.take i).map Dr) (ys:=([(⟨a18.errs,(a:Int),(u:Int)⟩:Probe)]:List Probe)) Tryz.underlying255 Tryz.underlying255 (Ab Tryz.typeInfo262) rfl (Nat.le_of_ble_eq_true rfl) rfl rfl rfl rfl OG11_3c0 r56 (by simp only [List.length_append,List.length_cons,List.length_nil,List.length_map,List.length_take] at *; omega) fun v55 gr55 G55=>⟨l56,?_⟩)
    refine Bg (i:=8) zZ4 rfl (by kernel_rfl) rfl l56 rfl (Ck rfl) ?_
    refine Bg (i:=9) zZ5 rfl (by kernel_rfl) rfl l56 rfl (Cb Tryz.underlying258 rfl rfl ⟨_,Ab Tryz.typeInfo255,rfl⟩ (by decide) rfl rfl) ?_
    refine Ej (Asg Asd) id ?_
    refine Fg (i:=10) zZ6 rfl (by kernel_rfl) rfl rfl (Cz (j:=0) (v:=v55) ⟨_,Ab Tryz.typeInfo255,rfl⟩ rfl rfl (Grow.single G55) rfl (Nat.le_of_ble_eq_true rfl) ⟨l56,?_⟩)
    refine Ec rfl ?_
    apply k15
    refine Ag rfl rfl ?_
    refine l_v (Br h32_18 rfl (z:=(((i + 1):Nat):Int)) (Bo (by first | rfl | omega | (push_cast; rfl)) (by omega) (by omega))) ?_
    refine l_v (Ah (v:=(iV ((((i + 1):Nat):Int)))) rfl) ?_
    refine Bj (Asg ((p_c Asd).trans Arz)) ?_
    refine Bj Ghost.drop ?_
    refine Bj (Asg ((p_c Asd).trans Arz)) ?_
    refine Bj (Asg Arz) ?_
    refine Bj (Asg ((p_c Asc).trans Asc)) ?_
    apply Ac
    refine ⟨_,?_,((i + 1)),v55,gr55,rfl,rfl,(Asi (Asi l11 l21) l56),rfl,h32_1,h32_3,h32_16,h32_17,rfl,(by omega),(Fy (by rw [Tw ha18,p32_1,p32_2,show k = a18.sees.length by omega]; rfl) G55),trivial⟩
    omega
 have q14:=of_decide_eq_false b14
 refine Bx ?_
 apply k6
 refine Asb rfl rfl fun K57 K58 k57 k58=>?_
 refine Arw (Ay Lab.f_kinds Tryz.underlying105 rfl rfl Hw (by decide) h11_1 r2) fun v59 r59=>?_
 refine Arw (Ax Hw rfl r59) fun v60 r60=>?_
 have g61:=Val.len r60
 refine l_v (Ci (el:=9) Tryz.underlying32 rfl r60) ?_
 refine l_v (Md (p:=1) (q:=l.kinds.length) rfl rfl rfl (by omega) (z:=(((1 <<< l.kinds.length):Nat):Int)) (Bo rfl (by omega) (by omega))) ?_
 refine l_v (Ah (v:=(iV (0))) rfl) ?_
 refine l_k k58 ?_
 refine Ao ?_
 refine Cc (fun mm ee dd ρ' σ'=>∃ (s:Nat) (al:Nat),((1 <<< l.kinds.length) - s) = mm∧[] = dd∧ρ11 = ρ'∧(og11_3c0 ++ ((k5,oC #[ov11_3c0,(iV ((al:Int))),(.map (some k4))] 258) :: ((k4,Res.obj (Obj.map #[] 0)) :: σ))) = σ'∧ee 1 = (.pointer (some ⟨k2,0,none⟩))∧ee 3 = (.pointer (some ⟨k5,0,none⟩))∧ee 65 = (iV ((((1 <<< l.kinds.length):Nat):Int)))∧ee 66 = (iV ((s:Int)))∧(s ≤ 1 <<< l.kinds.length)∧(al = Bf ((List.range s).filter (Ada l)))∧(al < 65536)∧True) (m:=_) ⟨0,0,rfl,rfl,rfl,rfl,h11_1,h11_3,rfl,rfl,(Nat.zero_le _),rfl,(by omega),trivial⟩ ?_
 rintro m62 e62 _ _ _ ⟨s,al,rfl,rfl,rfl,rfl,h62_1,h62_3,h62_65,h62_66,p62_0,p62_1,p62_2,_⟩
 have hsh16:s < 16→1 ≤ 1 <<< s∧1 <<< s < 65536:=Aja
 refine w_q rfl rfl fun K63 k63=>?_
 refine l_v (Da h62_66 h62_65) ?_
 refine Asa k63 fun K64 k64=>?_
 refine As (t:=decide ((s:Int) < (((1 <<< l.kinds.length):Nat):Int))) rfl (fun b65=>?_) (fun b65=>?_)
 ·have q65:=of_decide_eq_true b65
  refine Al ?_
  apply k64
  refine Ai fun K66 k66=>?_
  refine Ao ?_
  refine w_q rfl rfl fun K67 k67=>?_
  refine l_v (Ah (v:=(iV ((s:Int)))) h62_66) ?_
  refine l_v (Cp (v:=(iV ((s:Int)))) rfl) ?_
  refine Arx rfl rfl k67 fun K68 k68=>?_
  refine l_v (Cp (v:=(iV (0))) rfl) ?_
  refine Ary rfl rfl k68 fun K69 K70 k69 k70=>?_
  refine Arw (Ay Lab.f_kinds Tryz.underlying105 rfl rfl Hw (by decide) h62_1 r2) fun v71 r71=>?_
  refine Arw (Ax Hw rfl r71) fun v72 r72=>?_
  have g73:=Val.len r72
  refine l_v (Ci (el:=9) Tryz.underlying32 rfl r72) ?_
  refine l_v (Ah (v:=(iV (0))) rfl) ?_
  refine l_k k70 ?_
  refine Ao ?_
  replace hsh16:=hsh16 (by omega)
  refine Cc (fun mm ee dd ρ' σ'=>∃ (k:Nat) (c:Nat),(l.kinds.length - k) = mm∧[] = dd∧ρ11 = ρ'∧(og11_3c0 ++ ((k5,oC #[ov11_3c0,(iV ((al:Int))),(.map (some k4))] 258) :: ((k4,Res.obj (Obj.map #[] 0)) :: σ))) = σ'∧ee 1 = (.pointer (some ⟨k2,0,none⟩))∧ee 3 = (.pointer (some ⟨k5,0,none⟩))∧ee 9 = (iV ((s:Int)))∧ee 65 = (iV ((((1 <<< l.kinds.length):Nat):Int)))∧ee 66 = (iV ((s:Int)))∧ee 71 = (iV (((l.kinds.length:Nat):Int)))∧ee 10 = (iV ((c:Int)))∧ee 72 = (iV ((k:Int)))∧(k ≤ l.kinds.length)∧(c = ((List.range k).filter (Cu s)).length)∧(c ≤ k)∧True) (m:=_) ⟨0,0,rfl,rfl,rfl,rfl,h62_1,h62_3,rfl,h62_65,h62_66,rfl,rfl,rfl,(Nat.zero_le _),rfl,(Nat.le_refl _),trivial⟩ ?_
  rintro m74 e74 _ _ _ ⟨k,c,rfl,rfl,rfl,rfl,h74_1,h74_3,h74_9,h74_65,h74_66,h74_71,h74_10,h74_72,p74_0,p74_1,p74_2,_⟩
  refine w_q rfl rfl fun K75 k75=>?_
  refine l_v (Da h74_72 h74_71) ?_
  refine Asa k75 fun K76 k76=>?_
  refine As (t:=decide ((k:Int) < ((l.kinds.length:Nat):Int))) rfl (fun b77=>?_) (fun b77=>?_)
  ·have hsk:=Apx (k:=k) (by have:=of_decide_eq_true b77; omega)
   have q77:=of_decide_eq_true b77
   refine Al ?_
   apply k76
   refine Ai fun K78 k78=>?_
   refine Ao ?_
   refine w_q rfl rfl fun K79 k79=>?_
   refine l_v (Ah (v:=(iV ((k:Int)))) h74_72) ?_
   refine l_v (Cp (v:=(iV ((k:Int)))) rfl) ?_
   refine Arx rfl rfl k79 fun K80 k80=>?_
   refine l_v (Ah (v:=(iV ((s:Int)))) h74_9) ?_
   refine l_v (Ah (v:=(iV ((k:Int)))) rfl) ?_
   refine Arv (Bm (Aha (by omega) (by omega)) Tryz.func85 rfl rfl ⟨rfl,rfl,trivial⟩ ?_)
   refine l_k k80 ?_
   refine As (t:=Cu s k) rfl (fun b81=>?_) (fun b81=>?_)
   ·refine Ag rfl rfl ?_
    refine l_v (Ah (v:=(iV ((c:Int)))) h74_10) ?_
    refine l_v (Br rfl rfl (z:=(((c + 1):Nat):Int)) (Bo (by first | rfl | omega | (push_cast; rfl)) (by omega) (by omega))) ?_
    refine l_v (Cp (v:=(iV ((((c + 1):Nat):Int)))) rfl) ?_
    refine l_k k78 ?_
    refine Ag rfl rfl ?_
    refine l_v (Br h74_72 rfl (z:=(((k + 1):Nat):Int)) (Bo (by first | rfl | omega | (push_cast; rfl)) (by omega) (by omega))) ?_
    refine l_v (Ah (v:=(iV ((((k + 1):Nat):Int)))) rfl) ?_
    apply Ac
    refine ⟨_,?_,((k + 1)),((c + 1)),rfl,rfl,rfl,rfl,h74_1,h74_3,h74_9,h74_65,h74_66,h74_71,rfl,rfl,(by omega),(by rw [Od,b81,List.length_append,← p74_1]; simp),(by omega),trivial⟩
    omega
   refine Al ?_
   apply k78
   refine Ag rfl rfl ?_
   refine l_v (Br h74_72 rfl (z:=(((k + 1):Nat):Int)) (Bo (by first | rfl | omega | (push_cast; rfl)) (by omega) (by omega))) ?_
   refine l_v (Ah (v:=(iV ((((k + 1):Nat):Int)))) rfl) ?_
   apply Ac
   refine ⟨_,?_,((k + 1)),(c),rfl,rfl,rfl,rfl,h74_1,h74_3,h74_9,h74_65,h74_66,h74_71,h74_10,rfl,(by omega),(by rw [Od,b81,List.length_append,← p74_1]; simp),(by omega),trivial⟩
   omega
  have q77:=of_decide_eq_false b77
  refine Bx ?_
  apply k69
  refine w_q rfl rfl fun K82 k82=>?_
  refine l_v (Ah (v:=(iV ((c:Int)))) h74_10) ?_
  refine Arw (Ay Lab.f_most Tryz.underlying105 rfl rfl ty3 (by decide) h74_1 r2) fun v83 r83=>?_
  have ⟨g84a,g84b⟩:=At.rng r83
  refine l_v (Bc ty3 rfl r83) ?_
  refine l_v (Uz rfl rfl) ?_
  refine l_k k82 ?_
  refine As (t:=decide ((c:Int) ≤ l.most)) rfl (fun b85=>?_) (fun b85=>?_)
  ·have hpcb85:=Vw (s:=s) (n:=l.kinds.length) hk4 (by omega)
   rw [← show k = l.kinds.length by omega,← p74_1] at hpcb85
   have q85:=of_decide_eq_true b85
   refine Dc [0,1,2,3,4,5,6,7,8,9] (by kernel_rfl) rfl rfl ?_
   refine Bd (i:=0) zZ7 rfl (by kernel_rfl) rfl Ash rfl (Ah (v:=(.pointer (some ⟨k5,0,none⟩))) h74_3) ?_
   refine Bd (i:=1) zZ8 rfl (by kernel_rfl) rfl Ash rfl (Ck rfl) ?_
   refine Bd (i:=2) zZ9 rfl (by kernel_rfl) rfl Ash rfl (Cb Tryz.underlying258 rfl rfl ⟨_,Ab Tryz.typeInfo191,rfl⟩ (by decide) rfl rfl) ?_
   refine Bd (i:=4) [o1,o1,o1,o0,o1,o0,o0,o0,o0,o0] rfl (by kernel_rfl) rfl Ash rfl (Ah (v:=(iV ((s:Int)))) h74_9) ?_
   refine Bd (i:=5) [o1,o1,o1,o0,o1,o1,o0,o0,o0,o0] rfl (by kernel_rfl) rfl Ash rfl (Md (p:=1) (q:=s) rfl rfl rfl (by omega) (z:=(((1 <<< s):Nat):Int)) (Bo rfl (by omega) (by omega))) ?_
   refine Ej (Asg Asd) id ?_
   refine Dj (i:=3) [o1,o1,o1,o1,o1,o1,o0,o0,o0,o0] rfl (by kernel_rfl) rfl rfl (Dt (i:=0) (v:=(iV ((al:Int)))) ⟨_,Tryz.underlying191,rfl⟩ rfl rfl rfl ⟨Ash,?_⟩)
   refine Bg (i:=6) Ajy rfl (by kernel_rfl) rfl Ash rfl (Acj (p:=al) (q:=(1 <<< s)) rfl rfl (by omega) (by omega)) ?_
   refine Bg (i:=7) Ajz rfl (by kernel_rfl) rfl Ash rfl (Ck rfl) ?_
   refine Bg (i:=8) Aka rfl (by kernel_rfl) rfl Ash rfl (Cb Tryz.underlying258 rfl rfl ⟨_,Ab Tryz.typeInfo191,rfl⟩ (by decide) rfl rfl) ?_
   refine Fg (i:=9) Akb rfl (by kernel_rfl) rfl rfl (Cz (j:=0) (v:=(iV ((((al ||| (1 <<< s)):Nat):Int)))) ⟨_,Ab Tryz.typeInfo191,rfl⟩ rfl rfl rfl rfl (Nat.le_of_ble_eq_true rfl) ⟨Ash,?_⟩)
   refine Ec rfl ?_
   apply k66
   refine Ag rfl rfl ?_
   refine l_v (Br h74_66 rfl (z:=(((s + 1):Nat):Int)) (Bo (by first | rfl | omega | (push_cast; rfl)) (by omega) (by omega))) ?_
   refine l_v (Ah (v:=(iV ((((s + 1):Nat):Int)))) rfl) ?_
   refine Bj (Asg ((p_c Asd).trans Arz)) ?_
   refine Bj (Asg Arz) ?_
   refine Bj (Asg ((p_c Asc).trans Asc)) ?_
   apply Ac
   refine ⟨_,?_,((s + 1)),((al ||| (1 <<< s))),rfl,rfl,rfl,rfl,h74_1,h74_3,h74_65,rfl,(by omega),(by rw [List.range_succ,Gb,if_pos (by have:=q85; unfold Ada; exact decide_eq_true (by omega)),← p62_1]),(Nat.or_lt_two_pow (n:=16) p62_2 hsh16.2),trivial⟩
   omega
  have hpcb85:=Vw (s:=s) (n:=l.kinds.length) hk4 (by omega)
  rw [← show k = l.kinds.length by omega,← p74_1] at hpcb85
  have q85:=of_decide_eq_false b85
  refine Al ?_
  apply k66
  refine Ag rfl rfl ?_
  refine l_v (Br h74_66 rfl (z:=(((s + 1):Nat):Int)) (Bo (by first | rfl | omega | (push_cast; rfl)) (by omega) (by omega))) ?_
  refine l_v (Ah (v:=(iV ((((s + 1):Nat):Int)))) rfl) ?_
  apply Ac
  refine ⟨_,?_,((s + 1)),(al),rfl,rfl,rfl,rfl,h74_1,h74_3,h74_65,rfl,(by omega),(by rw [List.range_succ,Gb,if_neg (by have:=q85; unfold Ada; rw [decide_eq_false (by omega)]; simp),← p62_1]),p62_2,trivial⟩
  omega
 have q65:=of_decide_eq_false b65
 refine Bx ?_
 apply k57
 refine w_q rfl rfl fun K86 k86=>?_
 refine l_v (Ah (v:=(.pointer (some ⟨k5,0,none⟩))) h62_3) ?_
 refine l_v (Cp (v:=(.pointer (some ⟨k5,0,none⟩))) rfl) ?_
 refine l_k k86 ?_
 refine Hc OG11_3c0 fun ρ87 l87 r87=>?_
 have hbn88:Val ρ87 (.agg #[ov11_3c0,(iV ((al:Int))),(.map (some k4))]) (⟨(l.tests.take i).map Dr,(al:Int),⟨k4⟩⟩:Bench):=Bench.shut (x:=⟨(l.tests.take i).map Dr,(al:Int),⟨k4⟩⟩) r87 (show I64 ((al:Int)) from by constructor <;> omega)
 refine Nt hbn88 fun ρ88 l88 r88=>?_
 refine Aq ?_
 refine hret _ _ _ ?_
 refine ⟨(Asi (Asi (Asi l2 l11) l87) l88),k4,rfl,?_⟩
 refine atE (p:=(.pointer (some ⟨k5,0,none⟩))) rfl (At.cast ?_ r88)
 rw [show i = l.tests.length by omega,List.take_length,p62_1,show s = 1 <<< l.kinds.length by omega]; rfl
end Go.Proofs.YtphgjjmlnkgghaaGreatDoor

namespace Go.Proofs.YtphgjjmlnkgghaaGreatDoor
set_option maxHeartbeats 1000000
open Go
set_option maxRecDepth 100000 in
theorem Agx {mn:Bool} {X:Frame→List Frame→Ro→Own→Cy→Prop} {ρ:Ro} {σ:Own} {l:Lab} {vl vr:Value} {rs:List Found} (rl:Val ρ vl l) (rr:Val ρ vr rs):CallsH (CX mn X) 132 #[vl,vr] ρ σ (fun w ρ' σ'=>Ro.le ρ ρ'∧((Hv l rs ≠ 0∧w = .tuple #[.pointer none,iV (Hv l rs)]∧σ' = σ)∨(Hv l rs = 0∧∃ bp rm,w = .tuple #[bp,.int .i64 0]∧σ' = (rm,.obj (.map #[] 0)) :: σ∧At ρ' bp (⟨l.tests.map Dr,((Bf (Hr l):Nat):Int),⟨rm⟩⟩:Bench)))):=by
 refine Bh (n:=34) (args:=[vl,vr]) [4,5] Tryz.func132 rfl rfl rfl rfl fun Q hret hnor=>?_
 refine w_q rfl rfl fun K1 k1=>?_
 refine Arv (Eb (v:=vl) rfl fun k2=>?_)
 refine Bb (a:=l) rl fun ρ2 l2 r2=>?_
 replace rr:=Asj l2 rr
 refine l_v (Cp (v:=(.pointer none)) rfl) ?_
 refine l_v (Cp (v:=(iV (0))) rfl) ?_
 refine Ary rfl rfl k1 fun K3 K4 k3 k4=>?_
 refine Arw (Ax Zu rfl r2) fun v5 r5=>?_
 refine Arv (Bm (Aaz r5) Tryz.func168 rfl rfl ⟨rfl,trivial⟩ ?_)
 refine l_v (Cp (v:=(iV (Gh l))) rfl) ?_
 refine Arx rfl rfl k4 fun K6 k6=>?_
 refine l_v (Ah (v:=(iV (Gh l))) rfl) ?_
 refine l_v (Dg rfl rfl) ?_
 refine l_k k6 ?_
 refine As (t:=Gh l != 0) rfl (fun b7=>?_) (fun b7=>?_)
 ·have q7:=Ls b7
  refine w_q rfl rfl fun K8 k8=>?_
  refine l_v (Ah (v:=(iV (Gh l))) rfl) ?_
  refine l_v (Cp (v:=(.pointer none)) rfl) ?_
  refine l_v (Cp (v:=(iV (Gh l))) rfl) ?_
  refine l_k k8 ?_
  refine Aq ?_
  refine hret _ _ _ ?_
  have hF:Hv l rs = Gh l:=by rw [Hv,Ry q7]
  refine ⟨l2,.inl ⟨by rw [hF]; exact q7,(Mp (r:=4) (r':=5) (rs:=[]) (v:=(.pointer none)) (v':=(iV (Gh l))) (vs:=[]) ⟨rfl,rfl,trivial⟩).trans (by rw [hF]),rfl⟩⟩
 have hl:=Jh b7
 have q7:=Jh b7
 refine Al ?_
 apply k3
 refine Asb rfl rfl fun K9 K10 k9 k10=>?_
 refine l_v (Ah (v:=vr) rfl) ?_
 have g11:=Val.len rr
 refine l_v (Ci (el:=112) Tryz.underlying113 rfl rr) ?_
 refine l_v (Gl rfl rfl) ?_
 refine l_k k10 ?_
 refine As (t:=decide (((rs.length:Nat):Int) > 8)) rfl (fun b12=>?_) (fun b12=>?_)
 ·have q12:=of_decide_eq_true b12
  refine w_q rfl rfl fun K13 k13=>?_
  refine l_v (Cp (v:=(.pointer none)) rfl) ?_
  refine l_v (Cp (v:=(iV (2))) rfl) ?_
  refine l_k k13 ?_
  refine Aq ?_
  refine hret _ _ _ ?_
  have hF:Hv l rs = 2:=by rw [Hv,Gr hl,if_pos (by omega)]
  refine ⟨l2,.inl ⟨by rw [hF]; omega,(Mp (r:=4) (r':=5) (rs:=[]) (v:=(.pointer none)) (v':=(iV (2))) (vs:=[]) ⟨rfl,rfl,trivial⟩).trans (by rw [hF]),rfl⟩⟩
 have q12:=of_decide_eq_false b12
 refine Al ?_
 apply k9
 refine Asb rfl rfl fun K14 K15 k14 k15=>?_
 refine l_v (Ah (v:=vr) rfl) ?_
 have g16:=Val.len rr
 refine l_v (Ci (el:=112) Tryz.underlying113 rfl rr) ?_
 refine l_v (Ah (v:=(iV (0))) rfl) ?_
 refine l_k k15 ?_
 refine Ao ?_
 refine Cc (fun mm ee dd ρ' σ'=>∃ (i:Nat),(rs.length - i) = mm∧[] = dd∧ρ2 = ρ'∧σ = σ'∧ee 2 = (.pointer (some ⟨k2,0,none⟩))∧ee 17 = vr∧ee 18 = (iV (((rs.length:Nat):Int)))∧ee 19 = (iV ((i:Int)))∧(i ≤ rs.length)∧(∀ j,j < i→Vy l rs j = 0)∧True) (m:=_) ⟨0,rfl,rfl,rfl,rfl,rfl,rfl,rfl,rfl,(Nat.zero_le _),(fun j h=>absurd h (Nat.not_lt_zero _)),trivial⟩ ?_
 rintro m17 e17 _ _ _ ⟨i,rfl,rfl,rfl,rfl,h17_2,h17_17,h17_18,h17_19,p17_0,p17_1,_⟩
 refine w_q rfl rfl fun K18 k18=>?_
 refine l_v (Da h17_19 h17_18) ?_
 refine Asa k18 fun K19 k19=>?_
 refine As (t:=decide ((i:Int) < ((rs.length:Nat):Int))) rfl (fun b20=>?_) (fun b20=>?_)
 ·have q20:=of_decide_eq_true b20
  refine Al ?_
  apply k19
  refine Ai fun K21 k21=>?_
  refine Ao ?_
  refine w_q rfl rfl fun K22 k22=>?_
  obtain ⟨a24,ha24⟩:=Ed (xs:=rs) (i:=i) (by omega)
  refine Arw (Ch i Tryz.underlying113 Aby h17_17 rr (q:=(i:Int)) h17_19 rfl ha24) fun v23 r23=>?_
  refine Arw (Ax Aby rfl r23) fun v25 r25=>?_
  refine Arv (Ct Akf fun k26=>?_)
  refine Cx rfl (Dv (v:=v25) (a:=a24) (c:=Aml) Aby rfl rfl r25 rfl ?_)
  refine Bb (a:=a24) r25 fun ρ27 l27 r27=>?_
  replace r2:=At.mono l27 r2
  refine Arx rfl rfl k22 fun K28 k28=>?_
  refine Arw (Ay Found.f_test Tryz.underlying112 rfl rfl ty3 (by decide) rfl r27) fun v29 r29=>?_
  have ⟨g30a,g30b⟩:=At.rng r29
  refine l_v (Bc ty3 rfl r29) ?_
  refine Arw (Ay Lab.f_tests Tryz.underlying105 rfl rfl Vi (by decide) h17_2 r2) fun v31 r31=>?_
  refine Arw (Ax Vi rfl r31) fun v32 r32=>?_
  have g33:=Val.len r32
  refine l_v (Ci (el:=189) Tryz.underlying103 rfl r32) ?_
  refine l_v (Ou rfl rfl (z:=(((l.tests.length:Nat):Int) - 1)) (Bo (by first | rfl | omega | (push_cast; rfl)) (by omega) (by omega))) ?_
  refine Arv (Bm (Jl) Tryz.func117 rfl rfl ⟨rfl,rfl,rfl,trivial⟩ ?_)
  refine l_v (Iy rfl) ?_
  refine l_k k28 ?_
  refine As (t:=!(inR a24.test 0 ((((l.tests.length:Nat):Int) - 1)))) rfl (fun b34=>?_) (fun b34=>?_)
  ·have b35:=not_eq_t b34
   have q35:=Tr.1 b35
   refine w_q rfl rfl fun K36 k36=>?_
   refine l_v (Cp (v:=(.pointer none)) rfl) ?_
   refine l_v (Cp (v:=(iV (6))) rfl) ?_
   refine l_k k36 ?_
   refine Aq ?_
   refine hret _ _ _ ?_
   have hf:Vy l rs i = 6:=by simp [Vy,ha24,b7,b12,b20,b34,b35]
   have hF:Hv l rs = 6:=by rw [Hv,Gr hl,if_neg (by omega),Db p17_1 (by omega) hf (by omega)]
   refine ⟨(Asi l2 l27),.inl ⟨by rw [hF]; omega,(Mp (r:=4) (r':=5) (rs:=[]) (v:=(.pointer none)) (v':=(iV (6))) (vs:=[]) ⟨rfl,rfl,trivial⟩).trans (by rw [hF]),rfl⟩⟩
  have b37:=not_eq_f b34
  have q37:=Fz.1 b37
  refine Al ?_
  apply k21
  refine Ag rfl rfl ?_
  refine l_v (Br h17_19 rfl (z:=(((i + 1):Nat):Int)) (Bo (by first | rfl | omega | (push_cast; rfl)) (by omega) (by omega))) ?_
  refine l_v (Ah (v:=(iV ((((i + 1):Nat):Int)))) rfl) ?_
  refine Bj (Asf l27) ?_
  apply Ac
  refine ⟨_,?_,((i + 1)),rfl,rfl,rfl,rfl,h17_2,h17_17,h17_18,rfl,(by omega),(Eg p17_1 (by simp [Vy,ha24,b7,b12,b20,b34,b37])),trivial⟩
  omega
 have q20:=of_decide_eq_false b20
 refine Bx ?_
 apply k14
 refine w_q rfl rfl fun K38 k38=>?_
 refine Arw (Ax Zu h17_2 r2) fun v39 r39=>?_
 refine Arv (Cm (vs:=[v39]) (And r39 hl) Tryz.func169 rfl rfl ⟨rfl,trivial⟩ fun v40 ρ40 σ40 hc40=>?_)
 obtain ⟨l40,rm40,s40,r40⟩:=hc40
 subst s40
 refine l_v (Cp (v:=v40) rfl) ?_
 refine l_v (Cp (v:=(iV (0))) rfl) ?_
 refine l_k k38 ?_
 refine Aq ?_
 refine hret _ _ _ ?_
 have hF:Hv l rs = 0:=by rw [Hv,Gr hl,if_neg (by omega),Fb fun j hj=>p17_1 j (by omega)]
 refine ⟨(Asi l2 l40),.inr ⟨hF,v40,rm40,Mp (r:=4) (r':=5) (rs:=[]) (v:=v40) (v':=(iV (0))) (vs:=[]) ⟨rfl,rfl,trivial⟩,rfl,r40⟩⟩
set_option maxRecDepth 100000 in
theorem Acs {mn:Bool} {X:Frame→List Frame→Ro→Own→Cy→Prop} {ρ:Ro} {σ:Own} {l:Lab} {vl vr:Value} {rs:List Found} (hg:Glob ρ) (rl:Val ρ vl l) (rr:Val ρ vr rs):CallsH (CX mn X) 81 #[vl,vr] ρ σ (fun w ρ' σ'=>Ro.le ρ ρ'∧((Cw l rs ≠ 0∧w = .tuple #[.pointer none,.int .i64 0,iV (Cw l rs)]∧σ' = σ)∨(Cw l rs = 0∧∃ bp rm,w = .tuple #[bp,iV (Bf (Ba l rs):Nat),.int .i64 0]∧σ' = (rm,.obj (.map #[] 0)) :: σ∧At ρ' bp (⟨l.tests.map Dr,((Bf (Hr l):Nat):Int),⟨rm⟩⟩:Bench)))):=by
 refine Bh (n:=26) (args:=[vl,vr]) [4,5,6] Tryz.func81 rfl rfl rfl rfl fun Q hret hnor=>?_
 refine w_q rfl rfl fun K1 k1=>?_
 refine Arv (Eb (v:=vl) rfl fun k2=>?_)
 refine Bb (a:=l) rl fun ρ2 l2 r2=>?_
 replace rr:=Asj l2 rr
 replace hg:=Glob.mono l2 hg
 refine l_v (Cp (v:=(.pointer none)) rfl) ?_
 refine l_v (Cp (v:=(iV (0))) rfl) ?_
 refine l_v (Cp (v:=(iV (0))) rfl) ?_
 refine Arx rfl rfl k1 fun K3 k3=>?_
 refine Arw (Ax Zu rfl r2) fun v4 r4=>?_
 refine l_v (Ah (v:=vr) rfl) ?_
 refine Arv (Cm (vs:=[v4,vr]) (Agx r4 rr) Tryz.func132 rfl rfl ⟨rfl,rfl,trivial⟩ fun w5 ρ5 σ5 hc5=>?_)
 obtain ⟨l5,hc5⟩:=hc5
 replace rr:=Asj l5 rr
 replace hg:=Glob.mono l5 hg
 rcases hc5 with ⟨hF5,rfl,rfl⟩ | ⟨hF5,bp5,rm5,rfl,rfl,rb5⟩
 ·refine l_v (Ah (v:=(.tuple #[(.pointer none),(iV ((Hv l rs)))])) rfl) ?_
  refine l_v (Bk (vs:=#[(.pointer none),(iV ((Hv l rs)))]) rfl (v:=(.pointer none)) rfl) ?_
  refine l_v (Bk (vs:=#[(.pointer none),(iV ((Hv l rs)))]) rfl (v:=(iV ((Hv l rs)))) rfl) ?_
  refine l_v (Cp (v:=(.pointer none)) rfl) ?_
  refine l_v (Cp (v:=(iV ((Hv l rs)))) rfl) ?_
  refine Ary rfl rfl k3 fun K6 K7 k6 k7=>?_
  refine l_v (Ah (v:=(iV ((Hv l rs)))) rfl) ?_
  refine l_v (Dg rfl rfl) ?_
  refine l_k k7 ?_
  refine Co rfl (Amx hF5) ?_
  refine w_q rfl rfl fun K8 k8=>?_
  refine l_v (Ah (v:=(iV ((Hv l rs)))) rfl) ?_
  refine l_v (Cp (v:=(.pointer none)) rfl) ?_
  refine l_v (Cp (v:=(iV (0))) rfl) ?_
  refine l_v (Cp (v:=(iV ((Hv l rs)))) rfl) ?_
  refine l_k k8 ?_
  refine Aq ?_
  refine hret _ _ _ ?_
  have hC:Cw l rs = Hv l rs:=by rw [Cw,Ry hF5]
  refine ⟨(Asi l2 l5),.inl ⟨by rw [hC]; exact hF5,(Mp (r:=4) (r':=5) (rs:=[6]) (v:=(.pointer none)) (v':=(iV (0))) (vs:=[(iV ((Hv l rs)))]) ⟨rfl,rfl,rfl,trivial⟩).trans (by rw [hC]),rfl⟩⟩
 obtain ⟨hl,hrs,hr8⟩:=(show Gh l = 0∧ResOk l rs∧rs.length ≤ 8 from Abo hF5)
 have ok:=Ll hl
 have hk4:=ok.n4
 refine l_v (Ah (v:=(.tuple #[bp5,(iV (0))])) rfl) ?_
 refine l_v (Bk (vs:=#[bp5,(iV (0))]) rfl (v:=bp5) rfl) ?_
 refine l_v (Bk (vs:=#[bp5,(iV (0))]) rfl (v:=(iV (0))) rfl) ?_
 refine l_v (Cp (v:=bp5) rfl) ?_
 refine l_v (Cp (v:=(iV (0))) rfl) ?_
 refine Ary rfl rfl k3 fun K9 K10 k9 k10=>?_
 refine l_v (Ah (v:=(iV (0))) rfl) ?_
 refine l_v (Dg rfl rfl) ?_
 refine l_k k10 ?_
 refine Cg rfl rfl ?_
 refine Al ?_
 apply k9
 refine w_q rfl rfl fun K11 k11=>?_
 refine l_v (Ah (v:=bp5) rfl) ?_
 refine l_v (Ah (v:=vr) rfl) ?_
 refine Arv (Bm (Ahg hg rb5 rr hl hrs) Tryz.func133 rfl rfl ⟨rfl,rfl,trivial⟩ ?_)
 refine l_v (Cp (v:=(iV (((Bf (Ba l rs):Nat):Int)))) rfl) ?_
 refine Ary rfl rfl k11 fun K12 K13 k12 k13=>?_
 refine l_v (Ah (v:=(iV (((Bf (Ba l rs):Nat):Int)))) rfl) ?_
 refine l_v (Ek rfl rfl) ?_
 refine l_k k13 ?_
 refine As (t:=((Bf (Ba l rs):Nat):Int) == 0) rfl (fun b14=>?_) (fun b14=>?_)
 ·have q14:=Jr b14
  refine w_q rfl rfl fun K15 k15=>?_
  refine l_v (Cp (v:=(.pointer none)) rfl) ?_
  refine l_v (Cp (v:=(iV (0))) rfl) ?_
  refine l_v (Cp (v:=(iV (9))) rfl) ?_
  refine l_k k15 ?_
  refine Aj Ghost.drop ?_
  refine Aq ?_
  refine hret _ _ _ ?_
  have hC:Cw l rs = 9:=by rw [Cw,Gr hF5,if_pos (by rw [Fc,Tx.1 (show Bf (Ba l rs) = 0 by have:=q14; omega)]; rfl)]
  refine ⟨(Asi l2 l5),.inl ⟨by rw [hC]; omega,(Mp (r:=4) (r':=5) (rs:=[6]) (v:=(.pointer none)) (v':=(iV (0))) (vs:=[(iV (9))]) ⟨rfl,rfl,rfl,trivial⟩).trans (by rw [hC]),rfl⟩⟩
 have q14:=Jq b14
 refine Al ?_
 apply k12
 refine w_q rfl rfl fun K16 k16=>?_
 refine l_v (Ah (v:=bp5) rfl) ?_
 refine l_v (Ah (v:=(iV (((Bf (Ba l rs):Nat):Int)))) rfl) ?_
 refine l_v (Cp (v:=bp5) rfl) ?_
 refine l_v (Cp (v:=(iV (((Bf (Ba l rs):Nat):Int)))) rfl) ?_
 refine l_v (Cp (v:=(iV (0))) rfl) ?_
 refine l_k k16 ?_
 refine Aq ?_
 refine hret _ _ _ ?_
 have hC:Cw l rs = 0:=by rw [Cw,Gr hF5,if_neg (by rw [Fc]; intro h; exact q14 (by have:=Tx.2 (show (Ba l rs).length = 0 by omega); omega))]
 refine ⟨(Asi l2 l5),.inr ⟨hC,bp5,rm5,Mp (r:=4) (r':=5) (rs:=[6]) (v:=bp5) (v':=(iV (((Bf (Ba l rs):Nat):Int)))) (vs:=[(iV (0))]) ⟨rfl,rfl,rfl,trivial⟩,rfl,rb5⟩⟩
set_option maxRecDepth 100000 in
theorem Ahb {mn:Bool} {X:Frame→List Frame→Ro→Own→Cy→Prop} {ρ:Ro} {σ:Own} {xs:List Nat} {vi vp:Value} {p:Int→Bool} {q:Nat→Bool} (hi:IterF vi ρ (xs.map (fun x:Nat=>Value.int .i64 (x:Int)))) (hp:PredR ρ vp (fun x:Int=>0 ≤ x∧x < 65536) p) (hx:∀ x ∈ xs,x < 65536) (hq:∀ x:Nat,p (x:Int) = q x):CallsH (CX mn X) 82 #[vi,vp] ρ σ (fun w ρ' σ'=>ρ' = ρ∧σ' = σ∧w = (iV (Ga q xs))):=by
 refine Nz (n:=20) (args:=[vi,vp]) [4] Tryz.func82 rfl rfl rfl rfl fun Q hret hnor=>?_
 refine w_q rfl rfl fun K1 k1=>?_
 refine Arv (Eb (v:=vp) rfl fun k2=>?_)
 refine Bb (a:=(RawV.mk vp)) (Sp hp.single) fun ρ2 l2 r2=>?_
 replace hi:=IterF.mono l2 hi
 replace hp:=PredR.mono l2 hp
 refine l_v (Cp (v:=(iV (0))) rfl) ?_
 refine Arx rfl rfl k1 fun K3 k3=>?_
 refine Arv (Ct zr4 fun k4=>?_)
 refine Arv (Ct zr4 fun k5=>?_)
 refine Cx rfl (Cz (j:=1) (v:=(.bool (false))) ⟨_,Ab Tryz.typeInfo4,rfl⟩ rfl rfl rfl rfl (Nat.le_of_ble_eq_true rfl) ?_)
 refine Cx rfl (Cz (j:=0) (v:=(.bool (false))) ⟨_,Ab Tryz.typeInfo4,rfl⟩ rfl rfl rfl rfl (Nat.le_of_ble_eq_true rfl) ?_)
 refine Ary rfl rfl k3 fun K6 K7 k6 k7=>?_
 refine l_v (Ah (v:=vi) rfl) ?_
 refine l_k k7 ?_
 refine Ao ?_
 refine Hs (ys:=(xs).map (fun x:Nat=>Value.int .i64 (x:Int))) (fun pre ρ' τ=>∃ (l1:List Nat) (so:Bool) (no:Bool),pre = l1.map (fun x:Nat=>Value.int .i64 (x:Int))∧((k5,oC #[(.bool (no))] 4) :: ((k4,oC #[(.bool (so))] 4) :: σ)) = τ∧(so = l1.any q)∧(no = l1.any (fun x=>!q x))∧True) rfl rfl (Nat.le_of_ble_eq_true rfl) rfl hi ?_ ?_ ?_ ?_
 ·exact fun _ _ _ _ _ h=>h
 ·exact ⟨[],false,false,rfl,rfl,rfl,rfl,trivial⟩
 ·rintro l8_ _ x8 post8 ρ8 _ hys8 l8 ⟨l1,so,no,rfl,rfl,p8_0,p8_1,_⟩ pfx8
  obtain ⟨a8,l2_8,hl8,rfl⟩:=Ly Yi hys8
  replace hp:=PredR.mono l8 hp
  replace r2:=At.mono l8 r2
  refine Aj (σ':=((k5,Res.obj (Obj.cells #[(.bool (no))] 4 (0,0))) :: ((k4,Res.obj (Obj.cells #[(.bool (so))] 4 (0,0))) :: (pfx8 ++ σ)))) (Asg (Fe pfx8 ([(k5,Res.obj (Obj.cells #[(.bool (no))] 4 (0,0))),(k4,Res.obj (Obj.cells #[(.bool (so))] 4 (0,0)))]) σ)) ?_
  have hxd:=hx a8 (by rw [hl8]; simp)
  refine Ag rfl rfl ?_
  refine l_v (Cp (v:=(iV ((a8:Int)))) rfl) ?_
  refine Bj (σ':=pfx8 ++ ((k5,Res.obj (Obj.cells #[(.bool (no))] 4 (0,0))) :: ((k4,Res.obj (Obj.cells #[(.bool (so))] 4 (0,0))) :: σ))) (Asg (Fe ([(k5,Res.obj (Obj.cells #[(.bool (no))] 4 (0,0))),(k4,Res.obj (Obj.cells #[(.bool (so))] 4 (0,0)))]) pfx8 σ)) ?_
  apply Ac
  refine ⟨rfl,rfl,Ash,_,rfl,?_⟩
  intro pfy8
  refine Aj (σ':=((k5,Res.obj (Obj.cells #[(.bool (no))] 4 (0,0))) :: ((k4,Res.obj (Obj.cells #[(.bool (so))] 4 (0,0))) :: (pfy8 ++ σ)))) (Asg (Fe pfy8 ([(k5,Res.obj (Obj.cells #[(.bool (no))] 4 (0,0))),(k4,Res.obj (Obj.cells #[(.bool (so))] 4 (0,0)))]) σ)) ?_
  refine Ao ?_
  refine w_q rfl rfl fun K9 k9=>?_
  refine l_v (Lb Aqa rfl r2) ?_
  refine l_v (Ah (v:=(iV ((a8:Int)))) rfl) ?_
  refine Arv (Adv (pr:=p) (a:=(a8:Int)) (v:=(iV ((a8:Int)))) hp Ash (by constructor <;> omega) rfl rfl (Cv.2 ⟨rfl,by constructor <;> omega⟩) ?_)
  refine l_k k9 ?_
  refine As (t:=(p) ((a8:Int))) rfl (fun b11=>?_) (fun b11=>?_)
  ·have hqbb11:q a8 = true:=(hq _).symm.trans b11
   refine Ag rfl rfl ?_
   refine Cx rfl (Cz (j:=1) (v:=(.bool (true))) ⟨_,Ab Tryz.typeInfo4,rfl⟩ rfl rfl rfl rfl (Nat.le_of_ble_eq_true rfl) ?_)
   refine Bj (σ':=pfy8 ++ ((k5,Res.obj (Obj.cells #[(.bool (no))] 4 (0,0))) :: ((k4,Res.obj (Obj.cells #[(.bool (true))] 4 (0,0))) :: σ))) (Asg (Fe ([(k5,Res.obj (Obj.cells #[(.bool (no))] 4 (0,0))),(k4,Res.obj (Obj.cells #[(.bool (true))] 4 (0,0)))]) pfy8 σ)) ?_
   apply Ac
   refine ⟨rfl,Ash,_,rfl,l1 ++ [a8],(true),(no),(by simp),rfl,(by rw [any_app,← p8_0,hqbb11]; simp),(by rw [any_app,← p8_1,hqbb11]; simp),trivial⟩
  have hqbb11:q a8 = false:=(hq _).symm.trans b11
  refine Ag rfl rfl ?_
  refine Cx rfl (Cz (j:=0) (v:=(.bool (true))) ⟨_,Ab Tryz.typeInfo4,rfl⟩ rfl rfl rfl rfl (Nat.le_of_ble_eq_true rfl) ?_)
  refine Bj (σ':=pfy8 ++ ((k5,Res.obj (Obj.cells #[(.bool (true))] 4 (0,0))) :: ((k4,Res.obj (Obj.cells #[(.bool (so))] 4 (0,0))) :: σ))) (Asg (Fe ([(k5,Res.obj (Obj.cells #[(.bool (true))] 4 (0,0))),(k4,Res.obj (Obj.cells #[(.bool (so))] 4 (0,0)))]) pfy8 σ)) ?_
  apply Ac
  refine ⟨rfl,Ash,_,rfl,l1 ++ [a8],(so),(true),(by simp),rfl,(by rw [any_app,← p8_0,hqbb11]; simp),(by rw [any_app,← p8_1,hqbb11]; simp),trivial⟩
 ·rintro k12 ρ12 _ l12 ⟨l1,so,no,hpre12,rfl,p8_0,p8_1,_⟩
  obtain rfl:=Nf Yi hpre12
  apply k6
  refine Ai fun K13 k13=>?_
  refine Ao ?_
  refine w_q rfl rfl fun K14 k14=>?_
  refine Arv (Dt (i:=2) (v:=(.bool (so))) ⟨_,Tryz.underlying4,rfl⟩ rfl rfl rfl ?_)
  refine l_v (Ah (v:=(.bool (so))) rfl) ?_
  refine Cn (so) (fun b15=>?_) (fun b15=>?_)
  ·refine Ae (Ar rfl rfl rfl b15) (Dt (i:=1) (v:=(.bool (no))) ⟨_,Tryz.underlying4,rfl⟩ rfl rfl rfl ?_)
   refine l_v (Bt rfl b15 (v:=(.bool (no))) rfl) ?_
   refine l_v (Cp (v:=(.bool (no))) rfl) ?_
   refine l_k k14 ?_
   refine As (t:=no) rfl (fun b16=>?_) (fun b16=>?_)
   ·refine w_q rfl rfl fun K17 k17=>?_
    refine l_v (Cp (v:=(iV (0))) rfl) ?_
    refine l_k k17 ?_
    refine Aj (Asg Arz) ?_
    refine Aj Ghost.drop ?_
    refine Aj (Asg Arz) ?_
    refine Aj Ghost.drop ?_
    refine Aj (Asf (Asi l2 l12)) ?_
    refine Aq ?_
    refine hret _ _ _ _ ?_
    refine ⟨rfl,rfl,Eq.trans (b:=(iV (0))) rfl ?_⟩
    rw [Ga,← p8_0,← p8_1]; simp [b15,b16]
   refine w_q rfl rfl fun K18 k18=>?_
   refine Arv (Dt (i:=2) (v:=(.bool (so))) ⟨_,Tryz.underlying4,rfl⟩ rfl rfl rfl ?_)
   refine l_v (Cp (v:=(.bool (so))) rfl) ?_
   refine l_k k18 ?_
   refine Co rfl b15 ?_
   refine w_q rfl rfl fun K19 k19=>?_
   refine l_v (Cp (v:=(iV (1))) rfl) ?_
   refine l_k k19 ?_
   refine Aj (Asg Arz) ?_
   refine Aj Ghost.drop ?_
   refine Aj (Asg Arz) ?_
   refine Aj Ghost.drop ?_
   refine Aj (Asf (Asi l2 l12)) ?_
   refine Aq ?_
   refine hret _ _ _ _ ?_
   refine ⟨rfl,rfl,Eq.trans (b:=(iV (1))) rfl ?_⟩
   rw [Ga,← p8_0,← p8_1]; simp [b15,b16]
  refine Ap (Bl rfl rfl rfl b15) ?_
  refine l_v (Bn rfl b15 (v:=(.bool (false))) rfl) ?_
  refine l_v (Cp (v:=(.bool (false))) rfl) ?_
  refine l_k k14 ?_
  refine Cg rfl rfl ?_
  refine w_q rfl rfl fun K20 k20=>?_
  refine Arv (Dt (i:=2) (v:=(.bool (so))) ⟨_,Tryz.underlying4,rfl⟩ rfl rfl rfl ?_)
  refine l_v (Cp (v:=(.bool (so))) rfl) ?_
  refine l_k k20 ?_
  refine Cg rfl b15 ?_
  refine Al ?_
  apply k13
  refine w_q rfl rfl fun K21 k21=>?_
  refine l_v (Cp (v:=(iV (2))) rfl) ?_
  refine l_k k21 ?_
  refine Aj (Asg Arz) ?_
  refine Aj Ghost.drop ?_
  refine Aj (Asg Arz) ?_
  refine Aj Ghost.drop ?_
  refine Aj (Asf (Asi l2 l12)) ?_
  refine Aq ?_
  refine hret _ _ _ _ ?_
  refine ⟨rfl,rfl,Eq.trans (b:=(iV (2))) rfl ?_⟩
  rw [Ga,← p8_0,← p8_1]; simp [b15]
set_option maxRecDepth 100000 in
theorem Apu {k:Nat} {ρ₀:Ro} {vc:Value} (hc:At ρ₀ vc (k:Int)) (hk:k < 64):PredR ρ₀ (.func (.func 84) #[] #[vc]) (fun x:Int=>0 ≤ x∧x < 65536) (fun x:Int=>Cu x.toNat k):=by
 refine ⟨84,_,[vc],rfl,Tryz.func84,rfl,rfl,?_⟩
 intro mn X ρ σ v x hle hD hv
 replace hc:=hc.mono hle
 obtain ⟨s,rfl⟩:∃ s:Nat,x = (s:Int):=⟨x.toNat,by omega⟩
 obtain ⟨rfl,_⟩:=Cv.1 hv
 refine Bh (n:=7) (args:=[(iV ((s:Int))),vc]) [3] Tryz.func84 rfl rfl rfl rfl fun Q hret hnor=>?_
 refine w_q rfl rfl fun K1 k1=>?_
 refine l_v (Cp (v:=(.bool (false))) rfl) ?_
 refine Arx rfl rfl k1 fun K2 k2=>?_
 refine l_v (Ah (v:=(iV ((s:Int)))) rfl) ?_
 have ⟨g3a,g3b⟩:=At.rng hc
 refine l_v (Bc ty3 rfl hc) ?_
 refine Arv (Bm (Aha (by omega) (by omega)) Tryz.func85 rfl rfl ⟨rfl,rfl,trivial⟩ ?_)
 refine l_v (Cp (v:=(.bool (Cu s k))) rfl) ?_
 refine l_k k2 ?_
 refine Aq ?_
 refine hret _ _ _ ⟨rfl,rfl,Eq.trans (b:=(.bool (Cu s k))) rfl ?_⟩
 rfl
set_option maxRecDepth 100000 in
theorem Aee {mn:Bool} {X:Frame→List Frame→Ro→Own→Cy→Prop} {ρ:Ro} {σ:Own} {l:Lab} {vl vr:Value} {rs:List Found} (hg:Glob ρ) (rl:Val ρ vl l) (rr:Val ρ vr rs):CallsH (CX mn X) 36 #[vl,vr] ρ σ (fun w ρ' σ'=>Ro.le ρ ρ'∧σ' = σ∧∃ v0,w = (.tuple #[v0,(iV (Cw l rs))])∧Val ρ' v0 (Sf l rs:List Int)):=by
 refine Bh (n:=36) (args:=[vl,vr]) [4,5] Tryz.func36 rfl rfl rfl rfl fun Q hret hnor=>?_
 refine w_q rfl rfl fun K1 k1=>?_
 refine Arv (Eb (v:=vl) rfl fun k2=>?_)
 refine Bb (a:=l) rl fun ρ2 l2 r2=>?_
 replace rr:=Asj l2 rr
 replace hg:=Glob.mono l2 hg
 refine l_v (Cp (v:=(.slice none 0 0)) rfl) ?_
 refine l_v (Cp (v:=(iV (0))) rfl) ?_
 refine Arx rfl rfl k1 fun K3 k3=>?_
 refine Arw (Ax Zu rfl r2) fun v4 r4=>?_
 refine l_v (Ah (v:=vr) rfl) ?_
 refine Arv (Cm (vs:=[v4,vr]) (Acs hg r4 rr) Tryz.func81 rfl rfl ⟨rfl,rfl,trivial⟩ fun w5 ρ5 σ5 hc5=>?_)
 obtain ⟨l5,hc5⟩:=hc5
 replace r2:=At.mono l5 r2
 rcases hc5 with ⟨hC5,rfl,rfl⟩ | ⟨hC5,bp5,rm5,rfl,rfl,rb5⟩
 ·refine l_v (Ah (v:=(.tuple #[(.pointer none),(iV (0)),(iV ((Cw l rs)))])) rfl) ?_
  refine l_v (Bk (vs:=#[(.pointer none),(iV (0)),(iV ((Cw l rs)))]) rfl (v:=(.pointer none)) rfl) ?_
  refine l_v (Bk (vs:=#[(.pointer none),(iV (0)),(iV ((Cw l rs)))]) rfl (v:=(iV (0))) rfl) ?_
  refine l_v (Bk (vs:=#[(.pointer none),(iV (0)),(iV ((Cw l rs)))]) rfl (v:=(iV ((Cw l rs)))) rfl) ?_
  refine l_v (Cp (v:=(.pointer none)) rfl) ?_
  refine l_v (Cp (v:=(iV (0))) rfl) ?_
  refine l_v (Cp (v:=(iV ((Cw l rs)))) rfl) ?_
  refine Ary rfl rfl k3 fun K6 K7 k6 k7=>?_
  refine l_v (Ah (v:=(iV ((Cw l rs)))) rfl) ?_
  refine l_v (Dg rfl rfl) ?_
  refine l_k k7 ?_
  refine Co rfl (Amx hC5) ?_
  refine w_q rfl rfl fun K8 k8=>?_
  refine l_v (Ah (v:=(iV ((Cw l rs)))) rfl) ?_
  refine l_v (Cp (v:=(.slice none 0 0)) rfl) ?_
  refine l_v (Cp (v:=(iV ((Cw l rs)))) rfl) ?_
  refine l_k k8 ?_
  refine Aq ?_
  refine hret _ _ _ ?_
  refine ⟨(Asi l2 l5),rfl,(.slice none 0 0),Eq.trans (b:=(.tuple #[(.slice none 0 0),(iV ((Cw l rs)))])) (Mp (r:=4) (r':=5) (rs:=[]) (v:=(.slice none 0 0)) (v':=(iV ((Cw l rs)))) (vs:=[]) ⟨rfl,rfl,trivial⟩) ?_,Val.cast ?_ Gx⟩
  ·rfl
  ·rw [Sf,if_neg hC5]
 obtain ⟨hl,hrs,hr8⟩:=(show Gh l = 0∧ResOk l rs∧rs.length ≤ 8 from Abo (Yf hC5))
 have ok:=Ll hl
 have hk4:=ok.n4
 have hm16:=Jw ok (rs:=rs)
 refine l_v (Ah (v:=(.tuple #[bp5,(iV ((((Bf (Ba l rs)):Nat):Int))),(iV (0))])) rfl) ?_
 refine l_v (Bk (vs:=#[bp5,(iV ((((Bf (Ba l rs)):Nat):Int))),(iV (0))]) rfl (v:=bp5) rfl) ?_
 refine l_v (Bk (vs:=#[bp5,(iV ((((Bf (Ba l rs)):Nat):Int))),(iV (0))]) rfl (v:=(iV ((((Bf (Ba l rs)):Nat):Int)))) rfl) ?_
 refine l_v (Bk (vs:=#[bp5,(iV ((((Bf (Ba l rs)):Nat):Int))),(iV (0))]) rfl (v:=(iV (0))) rfl) ?_
 refine l_v (Cp (v:=bp5) rfl) ?_
 refine l_v (Cp (v:=(iV ((((Bf (Ba l rs)):Nat):Int)))) rfl) ?_
 refine l_v (Cp (v:=(iV (0))) rfl) ?_
 refine Ary rfl rfl k3 fun K9 K10 k9 k10=>?_
 refine l_v (Ah (v:=(iV (0))) rfl) ?_
 refine l_v (Dg rfl rfl) ?_
 refine l_k k10 ?_
 refine Cg rfl rfl ?_
 refine Al ?_
 apply k9
 refine w_q rfl rfl fun K11 k11=>?_
 refine l_v (Cp (v:=(.slice none 0 0)) rfl) ?_
 refine Ary rfl rfl k11 fun K12 K13 k12 k13=>?_
 refine Arw (Ay Lab.f_kinds Tryz.underlying105 rfl rfl Hw (by decide) rfl r2) fun v14 r14=>?_
 refine Arw (Ax Hw rfl r14) fun v15 r15=>?_
 have g16:=Val.len r15
 refine l_v (Ci (el:=9) Tryz.underlying32 rfl r15) ?_
 refine l_v (Ah (v:=(iV (0))) rfl) ?_
 refine l_k k13 ?_
 refine Ao ?_
 refine Cc (fun mm ee dd ρ' σ'=>∃ (i:Nat) (ov17_9:Value) (og17_9:Own),(l.kinds.length - i) = mm∧[] = dd∧Ro.le ρ5 ρ'∧(og17_9 ++ ((rm5,Res.obj (Obj.map #[] 0)) :: σ)) = σ'∧ee 7 = (iV ((((Bf (Ba l rs)):Nat):Int)))∧ee 23 = (iV (((l.kinds.length:Nat):Int)))∧ee 9 = ov17_9∧ee 24 = (iV ((i:Int)))∧(i ≤ l.kinds.length)∧Grow ρ' 124 ov17_9 ((List.range i).map (Po (Ba l rs))) og17_9∧True) (m:=_) ⟨0,(.slice none 0 0),[],rfl,rfl,Ash,rfl,rfl,rfl,rfl,rfl,(Nat.zero_le _),Hm,trivial⟩ ?_
 rintro m17 e17 _ ρ17 _ ⟨i,ov17_9,og17_9,rfl,rfl,l17,rfl,h17_7,h17_23,h17_9,h17_24,p17_0,OG17_9,_⟩
 refine w_q rfl rfl fun K18 k18=>?_
 refine l_v (Da h17_24 h17_23) ?_
 refine Asa k18 fun K19 k19=>?_
 refine As (t:=decide ((i:Int) < ((l.kinds.length:Nat):Int))) rfl (fun b20=>?_) (fun b20=>?_)
 ·have q20:=of_decide_eq_true b20
  refine Al ?_
  apply k19
  refine Ai fun K21 k21=>?_
  refine Ao ?_
  refine w_q rfl rfl fun K22 k22=>?_
  refine l_v (Ah (v:=(iV ((i:Int)))) h17_24) ?_
  refine Arv (Ct zr3 fun k23=>?_)
  refine Cx rfl (Dv (v:=(iV ((i:Int)))) (a:=(i:Int)) (c:=zc3) ty3 rfl rfl (Cv.2 ⟨rfl,by constructor <;> omega⟩) rfl ?_)
  refine Bb (a:=(i:Int)) (Cv.2 ⟨rfl,by constructor <;> omega⟩) fun ρ24 l24 r24=>?_
  replace OG17_9:=Grow.mono l24 OG17_9
  refine l_k k22 ?_
  refine Ag rfl rfl ?_
  refine l_v (Ah (v:=ov17_9) h17_9) ?_
  refine l_v (Ah (v:=(iV ((((Bf (Ba l rs)):Nat):Int)))) h17_7) ?_
  refine Arv (Cm (vs:=[(iV ((((Bf (Ba l rs)):Nat):Int)))]) (Abb (s:=((Bf (Ba l rs)))) (by omega)) Tryz.func83 rfl rfl ⟨rfl,trivial⟩ fun v25 ρ25 σ25 hc25=>?_)
  obtain ⟨l25,s25,r25⟩:=hc25
  replace s25:=s25.symm; subst s25
  replace OG17_9:=Grow.mono l25 OG17_9
  replace r24:=At.mono l25 r24
  refine l_v (Il (fn:=.func 84) (caps:=[.tmp 10]) (vs:=[(.pointer (some ⟨k23,0,none⟩))]) ⟨rfl,trivial⟩) ?_
  have hj26:=Yr (p:=fun x=>Cu x i) (xs:=Av ((Bf (Ba l rs))))
  refine Arv (Bm (Ahb (q:=fun x=>Cu x i) r25 (Apu r24 (by omega)) (by rw [Fp ok]; intro x hx; have:=(Qg ok (rs:=rs)).2 x hx; omega) (fun x=>rfl)) Tryz.func82 rfl rfl ⟨rfl,rfl,trivial⟩ ?_)
  refine Arv (Bi (α:=Int) (xs:=[Ga (fun x=>Cu x i) (Av ((Bf (Ba l rs))))]) (vs:=[(iV (Ga (fun x=>Cu x i) (Av ((Bf (Ba l rs))))))]) Tryz.underlying108 Pi Acl rfl (by decide) (Dk (os:=[.tmp 31]) ⟨rfl,trivial⟩) ⟨(Cv.2 ⟨rfl,by constructor <;> omega⟩),trivial⟩ rfl (by decide) fun k27 cs27 R27=>?_)
  have G27:Grow ρ25 124 (.slice (some ⟨k27,0,none⟩) 1 1) ([Ga (fun x=>Cu x i) (Av ((Bf (Ba l rs))))]:List Int) [(k27,.obj (.cells cs27.toArray 124 (0,0)))]:=Bs R27 rfl (by decide)
  refine Ca G27 fun ρ29 l29 r29=>?_
  replace OG17_9:=Grow.mono l29 OG17_9
  refine Arv (Gc (σ:=((rm5,Res.obj (Obj.map #[] 0)) :: σ)) (gr:=og17_9) (xs:=(List.range i).map (Po (Ba l rs))) (ys:=([Ga (fun x=>Cu x i) (Av ((Bf (Ba l rs))))]:List Int)) Tryz.underlying108 Tryz.underlying108 (Ab Tryz.typeInfo124) rfl (Nat.le_of_ble_eq_true rfl) rfl rfl rfl rfl OG17_9 r29 (by have:=ok.n4; simp only [List.length_map,List.length_range,List.length_append,List.length_cons,List.length_nil] at *; omega) fun v28 gr28 G28=>?_)
  refine l_v (Cp (v:=v28) rfl) ?_
  refine l_k k21 ?_
  refine Ag rfl rfl ?_
  refine l_v (Br h17_24 rfl (z:=(((i + 1):Nat):Int)) (Bo (by first | rfl | omega | (push_cast; rfl)) (by omega) (by omega))) ?_
  refine l_v (Ah (v:=(iV ((((i + 1):Nat):Int)))) rfl) ?_
  apply Ac
  refine ⟨_,?_,((i + 1)),v28,gr28,rfl,rfl,(Asi (Asi (Asi l17 l24) l25) l29),rfl,h17_7,h17_23,rfl,rfl,(by omega),(Fy (by rw [Nj,Fp ok,Ys]) G28),trivial⟩
  omega
 have q20:=of_decide_eq_false b20
 refine Bx ?_
 apply k12
 refine w_q rfl rfl fun K30 k30=>?_
 refine l_v (Ah (v:=ov17_9) h17_9) ?_
 refine l_v (Cp (v:=ov17_9) rfl) ?_
 refine l_v (Cp (v:=(iV (0))) rfl) ?_
 refine l_k k30 ?_
 refine Hc OG17_9 fun ρ31 l31 r31=>?_
 refine Aj Ghost.drop ?_
 refine Aq ?_
 refine hret _ _ _ ?_
 refine ⟨(Asi (Asi (Asi l2 l5) l17) l31),rfl,ov17_9,Eq.trans (b:=(.tuple #[ov17_9,(iV (0))])) (Mp (r:=4) (r':=5) (rs:=[]) (v:=ov17_9) (v':=(iV (0))) (vs:=[]) ⟨rfl,rfl,trivial⟩) ?_,Val.cast ?_ r31⟩
 ·rw [hC5] <;> rfl
 ·rw [Sf,if_pos hC5,show i = l.kinds.length by omega]
end Go.Proofs.YtphgjjmlnkgghaaGreatDoor

namespace Go.Proofs.YtphgjjmlnkgghaaGreatDoor
open Go
def Dp:Option Nat→Int
  | some d=>(d:Int)
  | none=>1048576
theorem Ha {a:Nat}:Dp (some a) = (a:Int):=rfl
theorem Nd:Dp none = 1048576:=rfl
theorem Mi {l:Lab} {sets:List Nat} {left:Nat} (hl:left < 32):0 ≤ Dp (dep l sets left)∧(Dp (dep l sets left) ≤ 5∨Dp (dep l sets left) = 1048576):=by
  cases h:dep l sets left with
  | none=>simp [Dp]
  | some d=>have:=Nc hl h; have:=Lg hl; simp only [Dp]; omega
/-- What a test yields,with what is not there told by a great number. -/
def Nr (l:Lab) (sets:List Nat) (left t:Nat):Int:=1 + max (Dp (dep l (Au l sets (fT t true)) (left - 1 <<< t))) (Dp (dep l (Au l sets (fT t false)) (left - 1 <<< t)))
theorem Afu {l:Lab} {sets:List Nat} {left t:Nat} {b:Option Nat} (hl:left < 32) (hb:∀ d,b = some d→d ≤ 5):min (Dp b) (Nr l sets left t) = Dp (Abj b (Gv l sets left t)):=by
  have h1:=Mi (l:=l) (sets:=Au l sets (fT t true)) (left:=left - 1 <<< t) (Nat.lt_of_le_of_lt (Nat.sub_le _ _) hl)
  have h2:=Mi (l:=l) (sets:=Au l sets (fT t false)) (left:=left - 1 <<< t) (Nat.lt_of_le_of_lt (Nat.sub_le _ _) hl)
  have h3:∀ d,dep l (Au l sets (fT t true)) (left - 1 <<< t) = some d→d ≤ 5:=fun d hd=>Nat.le_trans (Nc (Nat.lt_of_le_of_lt (Nat.sub_le _ _) hl) hd) (Lg (Nat.lt_of_le_of_lt (Nat.sub_le _ _) hl))
  have h4:∀ d,dep l (Au l sets (fT t false)) (left - 1 <<< t) = some d→d ≤ 5:=fun d hd=>Nat.le_trans (Nc (Nat.lt_of_le_of_lt (Nat.sub_le _ _) hl) hd) (Lg (Nat.lt_of_le_of_lt (Nat.sub_le _ _) hl))
  unfold Nr Gv
  generalize dep l (Au l sets (fT t true)) (left - 1 <<< t) = x at *
  generalize dep l (Au l sets (fT t false)) (left - 1 <<< t) = y at *
  cases x with
  | none =>
    show min (Dp b) (1 + max (Dp none) (Dp y)) = Dp (Abj b none)
    rw [Rh,Nd]
    cases b with
    | none=>rw [Nd]; omega
    | some d=>have:=hb d rfl; rw [Ha]; omega
  | some x =>
    cases y with
    | none =>
      show min (Dp b) (1 + max (Dp (some x)) (Dp none)) = Dp (Abj b none)
      rw [Rh,Nd]
      cases b with
      | none=>rw [Nd]; omega
      | some d=>have:=hb d rfl; rw [Ha,Ha]; omega
    | some y =>
      have h3:=h3 x rfl; have h4:=h4 y rfl
      cases b with
      | none =>
        show min (Dp none) (1 + max (Dp (some x)) (Dp (some y))) = Dp (some (1 + max x y))
        rw [Nd,Ha,Ha,Ha]; omega
      | some d =>
        show min (Dp (some d)) (1 + max (Dp (some x)) (Dp (some y))) = Dp (some (min d (1 + max x y)))
        rw [Ha,Ha,Ha,Ha]; omega
theorem Zy {l:Lab} {sets:List Nat} {left t d:Nat} (hl:left < 32) (hd:dep l sets left = some d):(Nr l sets left t != Dp (dep l sets left)) = (Jt (Gv l sets left t) != Jt (dep l sets left)):=by
  have h1:=Mi (l:=l) (sets:=Au l sets (fT t true)) (left:=left - 1 <<< t) (Nat.lt_of_le_of_lt (Nat.sub_le _ _) hl)
  have h2:=Mi (l:=l) (sets:=Au l sets (fT t false)) (left:=left - 1 <<< t) (Nat.lt_of_le_of_lt (Nat.sub_le _ _) hl)
  have h3:=Nc hl hd
  have h4:=Lg hl
  rw [hd,Ha,Ahm]
  unfold Nr Gv
  generalize dep l (Au l sets (fT t true)) (left - 1 <<< t) = x at *
  generalize dep l (Au l sets (fT t false)) (left - 1 <<< t) = y at *
  have key:∀ a b c e:Int,((a = b)↔(c = e))→(a != b) = (c != e):=fun a b c e h=>by
    by_cases hab:a = b
    · have:=h.1 hab; simp [hab,this]
    · have:c ≠ e:=fun hce=>hab (h.2 hce)
      rw [show (a != b) = true from by simpa using hab,show (c != e) = true from by simpa using this]
  apply key
  cases x with
  | none =>
    show (1 + max (Dp none) (Dp y) = (d:Int))↔(Jt none = (d:Int))
    rw [Nd,Ahl]; omega
  | some x =>
    cases y with
    | none =>
      show (1 + max (Dp (some x)) (Dp none) = (d:Int))↔(Jt none = (d:Int))
      rw [Nd,Ahl]; omega
    | some y =>
      show (1 + max (Dp (some x)) (Dp (some y)) = (d:Int))↔(Jt (some (1 + max x y)) = (d:Int))
      rw [Ha,Ha,Ahm]; omega
def Sr (l:Lab) (a b:Int) (w:Value):Prop:=∃ s left:Nat,a = (s:Int)∧b = (left:Int)∧w = .int .i64 (Dp (dep l (Av s) left))
theorem Ahk {l:Lab} {s left:Nat} {w:Value} (h:Sr l (s:Int) (left:Int) w):w = .int .i64 (Dp (dep l (Av s) left)):=by
  obtain ⟨s',left',h1,h2,h3⟩:=h
  obtain rfl:s = s':=by omega
  obtain rfl:left = left':=by omega
  exact h3
theorem Aez {ρ:Ro} (h:Glob ρ):At ρ (.pointer (some ⟨0,0,none⟩)) (⟨0,0⟩:State):=by
  obtain ⟨t,fz,h1⟩:=h.over
  exact ⟨0,0,_,t,fz,[.int .i64 0,.int .i64 0],[],rfl,h1,⟨[.int .i64 0],[.int .i64 0],rfl,⟨rfl,(show I64 0 from by constructor <;> omega)⟩,⟨rfl,(show I64 0 from by constructor <;> omega)⟩⟩,rfl⟩
theorem Hd {l:Lab} {s:Nat} {r:Found}:Av (Bf (Au l (Av s) r)) = Au l (Av s) r:=Tl (List.filter_sublist.trans (Vo s))
theorem Er {l:Lab} {s:Nat} {r:Found}:Bf (Au l (Av s) r) < 65536:=Sl (n:=16) fun a ha=>Pt (List.mem_filter.1 ha).1
theorem Xy {p q:Nat} (hp:p < 2 ^ 63):Op.intBits .andNot .i64 p q = pure (.int .i64 ((p ^^^ (p &&& q):Nat):Int)):=by
  simp only [Op.intBits]
  congr 2
  have h1:p ^^^ (p &&& q) < 2 ^ 63:=Nat.xor_lt_two_pow hp (Nat.lt_of_le_of_lt Nat.and_le_left hp)
  have:(BitVec.ofInt IntKind.i64.bits p &&& ~~~ BitVec.ofInt IntKind.i64.bits q).toNat = p ^^^ (p &&& q):=by
    show (BitVec.ofInt 64 p &&& ~~~ BitVec.ofInt 64 q).toNat = _
    apply Nat.eq_of_testBit_eq
    intro i
    rw [BitVec.testBit_toNat,BitVec.getLsbD_and,BitVec.getLsbD_not,Nat.testBit_xor,Nat.testBit_and]
    by_cases hi:i < 64
    · have e1:(BitVec.ofInt 64 (p:Int)).getLsbD i = p.testBit i:=by
        rw [← BitVec.testBit_toNat,BitVec.toNat_ofInt]
        have e1:((p:Int) % (2 ^ 64:Nat)).toNat = p:=by omega
        rw [e1]
      have e2:(BitVec.ofInt 64 (q:Int)).getLsbD i = q.testBit i:=by
        rw [← BitVec.testBit_toNat,BitVec.toNat_ofInt]
        have e1:((q:Int) % (2 ^ 64:Nat)).toNat = q % 2 ^ 64:=by omega
        rw [e1,Nat.testBit_mod_two_pow]; simp [hi]
      rw [e1,e2]
      cases p.testBit i <;> cases q.testBit i <;> simp [hi]
    · have:p.testBit i = false:=Nat.testBit_lt_two_pow (Nat.lt_of_lt_of_le hp (Nat.pow_le_pow_right (by omega) (by omega)))
      rw [this]
      simp [hi]
  rw [this]
  exact Bo rfl (by omega) (by omega)
theorem Ajs {P:Program} {ρ:Ro} {e:Env} {ty t t':TypeId} {x y:Operand} {p q:Nat} (hx:Af e x = .int .i64 p) (hy:Af e y = .int .i64 q) (hp:p < 2 ^ 63):Yld P ρ e (.binOp .andNot t x y t') ty (.int .i64 ((p ^^^ (p &&& q):Nat):Int)) :=
  La hx hy Dh (by simp only [binOp]; rw [if_neg (by simp)]; exact Xy hp)
theorem Aao {p t:Nat} (hp:p < 32) (hb:Cu p t = true):p ^^^ (p &&& 1 <<< t) = p - 1 <<< t:=by
  have key:(List.range 32).all (fun p=>(List.range 5).all fun t=>!Cu p t || (p ^^^ (p &&& 1 <<< t) == p - 1 <<< t)) = true:=by decide +kernel
  have:=List.all_eq_true.1 (List.all_eq_true.1 key p (by simpa using hp)) t (by have:=Ny hp hb; simpa using this)
  rw [hb] at this
  simpa using this
end Go.Proofs.YtphgjjmlnkgghaaGreatDoor

namespace Go.Proofs.YtphgjjmlnkgghaaGreatDoor
open Go
/-- What the results of a function are,at its end. -/
def Akh (P:Program) (ρ:Ro) (σ:Own) (e:Env):ResultVar→Value→Prop
  | .tmp t,v=>e t = v
  | .cell a t,v=>∀ Q:Value→Own→Prop,Q v σ→wpS P ρ (do loadVar t (← asAddr (e a))) σ Q
def Agf (P:Program) (ρ:Ro) (σ:Own) (e:Env):List ResultVar→List Value→Prop
  | [],[]=>True
  | r :: rs,v :: vs=>Akh P ρ σ e r v∧Agf P ρ σ e rs vs
  | _,_=>False
def Adi:List Value→Value
  | [v]=>v
  | vs=>.tuple vs.toArray
theorem Vf {P:Program} {ρ:Ro} {σ:Own} {fn:Func} {rs:List ResultVar} {vs:List Value} {e:Env} {Q:Value→Own→Prop} (hr:fn.results = rs.toArray) (hl:Agf P ρ σ e rs vs) (h:Q (Adi vs) σ):wpS P ρ (Hp fn e) σ Q:=by
  have key:∀ (g:ResultVar→Sem Value) (_:∀ r v,Akh P ρ σ e r v→∀ Q:Value→Own→Prop,Q v σ→wpS P ρ (g r) σ Q) (rs:List ResultVar) (vs:List Value) (acc:Array Value) (Q:Array Value→Own→Prop),Agf P ρ σ e rs vs→Q (acc ++ vs.toArray) σ→wpS P ρ (List.foldlM (m:=Sem) (fun (bs:Array Value) (a:ResultVar)=>Functor.map bs.push (g a)) acc rs) σ Q:=by
    intro g hg rs
    induction rs with
    | nil =>
      intro vs acc Q hl h
      cases vs with
      | nil=>show Q acc σ; simpa using h
      | cons v vs=>exact hl.elim
    | cons r rs ih =>
      intro vs acc Q hl h
      cases vs with
      | nil=>exact hl.elim
      | cons v vs =>
        obtain ⟨h1,h2⟩:=hl
        rw [List.foldlM_cons]
        show wpS P ρ (((g r).bind fun x=>pure (acc.push x)).bind _) σ Q
        rw [Ad,Ad]
        refine hg r v h1 _ ?_
        refine ih vs (acc.push v) Q h2 ?_
        have e1:acc.push v ++ vs.toArray = acc ++ (v :: vs).toArray:=by simp
        rw [e1]; exact h
  unfold Hp
  rw [hr,Array.mapM_eq_foldlM,List.foldlM_toArray]
  show wpS P ρ (Sem.bind _ _) σ Q
  rw [Ad]
  refine key _ ?_ rs vs #[] _ hl ?_
  · intro r v hv Q hQ
    cases r with
    | tmp t=>cases hv; exact hQ
    | cell a t=>exact hv Q hQ
  · rw [Array.empty_append]
    show Q _ σ
    cases vs with
    | nil=>exact h
    | cons v vs =>
      cases vs with
      | nil=>exact h
      | cons w vs=>simpa [Adi] using h
theorem Rj {P:Program} {ρ:Ro} {σ:Own} {e:Env} {a off i:Nat} {t t':TypeId} {r:Nat} {c:List Value} {fz:Nat × Nat} {v:Value} (hT:∃ d,P.underlying t = some d∧Qv d = false) (ha:e a = .pointer (some ⟨r,off,none⟩)) (hi:σ[i]? = some (r,.obj (.cells c.toArray t' fz))) (hc:c[off]? = some v):Akh P ρ σ e (.cell a t) v:=by
  intro Q hQ
  rw [ha]
  show wpS P ρ (loadVar t ⟨r,off,none⟩) σ _
  show wpS P ρ ((isAgg t).bind _) σ _
  rw [Ad]
  refine Hi hT ?_
  exact ⟨rfl,rfl,_,v,.inr (List.mem_of_getElem? hi),by simpa [Gy] using hc,hQ⟩
theorem Lt {C:Ctx} {f:FuncId} {fn:Func} {c:Code} {n:Nat} {args:List Value} {ρ:Ro} {σ:Own} {R:Value→Ro→Own→Prop} (rs:List ResultVar) (hf:C.P.funcs[f]? = some fn) (hc:fn.body = some c) (hn:fn.ntmps = n) (ha:Nat.ble args.length n = true) (hr:fn.results = rs.toArray)
    (h:∀ Q:Hu,(∀ e ρ' σ' ρ'' σ'' vs,Agf C.P ρ' σ' e rs vs→Ghost ρ' σ' ρ'' σ''→R (Adi vs) ρ'' σ''→Q .ret e [] ρ' σ')→(∀ e ρ' σ' ρ'' σ'' vs,Agf C.P ρ' σ' e rs vs→Ghost ρ' σ' ρ'' σ''→R (Adi vs) ρ'' σ''→Q .normal e [] ρ' σ')→WpC C ⟨f,.normal,none⟩ n c Q (Pn args) [] ρ σ):CallsH C f args.toArray ρ σ R:=by
  have h1:CallsH C f args.toArray ρ σ (fun v ρ' σ'=>∃ ρ'' σ'',Ghost ρ' σ' ρ'' σ''∧R v ρ'' σ''):=by
    refine Oy hf hc hn (Nat.le_of_ble_eq_true ha) (h _ (fun e ρ' σ' ρ'' σ'' vs hl hg hR=>⟨fun id h=>(by cases h),?_⟩) (fun e ρ' σ' ρ'' σ'' vs hl hg hR=>⟨fun id h=>(by cases h),?_⟩)) <;>
    exact Vf (Q:=fun v σ'=>∃ ρ'' σ'',Ghost ρ' σ' ρ'' σ''∧R v ρ'' σ'') hr hl ⟨ρ'',σ'',hg,hR⟩
  intro c' cs
  refine (h1 c' cs).bind ?_
  rintro _ _ ρ' σ' ⟨v,rfl,rfl,ρ'',σ'',hg,hR⟩
  exact .ghost hg (.stop ⟨v,rfl,rfl,hR⟩)
section
variable {C:Ctx} {e:Env} {ds:List Deferred} {ρ:Ro} {σ:Own} {K:Value→List Deferred→Ro→Own→Prop} {rd:Option Nat} {dd:Option Tmp}
variable {ty:TypeId} {pos:String} {af:Array Edge} {g:Option (Nat × Bool)} {x y:Operand} {v:Value} {t t':TypeId}
/-- One cell of an element of a slice that grows is stored. -/
theorem Jm {α:Type} [Dat α] {xs:List α} {a z:α} {gr:Own} {el:TypeId} {w:Value} {off i o:Nat} (hE:∃ i,C.P.info? t = some i∧i.size = 1) (hx:Af e x = .pointer (some ⟨Ahx v,off,none⟩)) (ho:off = i * Dat.k α + o) (hok:o < Dat.k α) (hy:Af e y = w) (hw:single w = true) (hv:Grow ρ el v xs gr) (hi:xs[i]? = some z)
    (hset:∀ cs,Dat.rep ρ cs z→Dat.rep ρ (cs.set o w) a)
    (h:∀ gr',Grow ρ el v (xs.set i a) gr'→K undef ds ρ (gr' ++ σ)):wpS C.P ρ (execOp (Af e) ⟨dd,.store t x y,ty,pos,af,g⟩) (gr ++ σ) (NextH C K rd ds ρ):=by
  have hil:i < xs.length:=(List.getElem?_eq_some_iff.1 hi).1
  rcases hv.2.2 with ⟨_,h2⟩ | ⟨r,cap,cs,rs,gb,e1,e2,hr,hl,hc⟩
  · rw [h2] at hil; simp at hil
  · subst e1 e2
    have hcl:=hr.len
    have hb:i * Dat.k α + Dat.k α ≤ xs.length * Dat.k α:=by rw [← Nat.succ_mul]; exact Nat.mul_le_mul_right _ hil
    obtain ⟨ca,cb,cc,f1,f2,f3,f4⟩:∃ ca cb cc,cs = ca ++ (cb ++ cc)∧ca.length = i * Dat.k α∧cb.length = Dat.k α∧Rows ρ (ca ++ (cb.set o w ++ cc)) (xs.set i a):=by
      clear hv h hx hl hc hb hcl ho hil
      induction xs generalizing cs i with
      | nil=>simp at hi
      | cons z' zs ih =>
        obtain ⟨c1,c2,g1,g2,g3⟩:=hr
        have hz:=Dat.len g2
        cases i with
        | zero =>
          obtain rfl:z' = z:=by simpa using hi
          exact ⟨[],c1,c2,by simp [g1],by simp,hz,c1.set o w,c2,rfl,hset _ g2,g3⟩
        | succ i =>
          obtain ⟨ca,cb,cc,f1,f2,f3,f4⟩:=ih (i:=i) (by simpa using hi) _ g3
          refine ⟨c1 ++ ca,cb,cc,by rw [g1,f1]; simp,by rw [List.length_append,hz,f2,Nat.add_mul,Nat.one_mul,Nat.add_comm],f3,c1,ca ++ (cb.set o w ++ cc),by simp,g2,f4⟩
    refine Cz (j:=0) (off:=off) (c:=cs ++ rs) hE hx hy hw rfl (by rw [List.length_append,hcl,ho]; omega) ?_
    have e3:(cs ++ rs).set off w = (ca ++ (cb.set o w ++ cc)) ++ rs:=by
      rw [f1,ho,← f2,List.append_assoc,List.set_append_right _ _ (by omega),Nat.add_sub_cancel_left,List.append_assoc,List.set_append_left _ _ (by omega)]
      simp [List.append_assoc]
    rw [e3]
    refine h ((r,.obj (.cells ((ca ++ (cb.set o w ++ cc)) ++ rs).toArray el (0,0))) :: gb) ⟨fun p hp=>?_,by rw [List.length_set]; exact hv.2.1,.inr ⟨r,cap,ca ++ (cb.set o w ++ cc),rs,gb,by rw [List.length_set],rfl,f4,?_,by rw [List.length_set]; exact hc⟩⟩
    · rcases List.mem_cons.1 hp with rfl | hp
      · exact ⟨_,rfl⟩
      · exact hv.1 p (List.mem_cons_of_mem _ hp)
    · rw [← hl,f1]; simp
end
section
variable {C:Ctx} {e:Env} {ds:List Deferred} {ρ:Ro} {σ:Own} {K:Value→List Deferred→Ro→Own→Prop} {rd:Option Nat} {dd:Option Tmp}
variable {ty:TypeId} {pos:String} {af:Array Edge} {g:Option (Nat × Bool)} {x y:Operand} {v:Value} {t t':TypeId}
theorem Gu {r off:Nat} {c:List Value} {fz:Nat × Nat} (hT:∃ d,C.P.underlying t = some d∧Qv d = false) (hx:Af e x = .pointer (some ⟨r,off,none⟩)) (hi:(r,Res.obj (.cells c.toArray t' fz)) ∈ σ) (hc:c[off]? = some v) (h:K v ds ρ σ) :
    wpS C.P ρ (execOp (Af e) ⟨dd,.load t x,ty,pos,af,g⟩) σ (NextH C K rd ds ρ):=by
  obtain ⟨i,hi⟩:=List.mem_iff_getElem?.1 hi
  exact Dt hT hx hi hc h
end
theorem Pb {ρ:Ro} {z:FNode} {a:Int} (ha:I64 a) (cs:List Value) (h:Dat.rep ρ cs z):Dat.rep ρ (cs.set 1 (.int .i64 a)) (⟨z.test,a,z.not⟩:FNode):=by
  obtain ⟨q0,r0,f0,⟨a0,b0⟩,⟨q1,r1,f1,⟨a1,b1⟩,⟨a2,b2⟩⟩⟩:=h
  subst f0 f1 a0 a1 a2
  exact ⟨[.int .i64 z.test],[.int .i64 a,.int .i64 z.not],rfl,⟨rfl,b0⟩,⟨[.int .i64 a],[.int .i64 z.not],rfl,⟨rfl,ha⟩,⟨rfl,b2⟩⟩⟩
theorem Pc {ρ:Ro} {z:FNode} {a:Int} (ha:I64 a) (cs:List Value) (h:Dat.rep ρ cs z):Dat.rep ρ (cs.set 2 (.int .i64 a)) (⟨z.test,z.found,a⟩:FNode):=by
  obtain ⟨q0,r0,f0,⟨a0,b0⟩,⟨q1,r1,f1,⟨a1,b1⟩,⟨a2,b2⟩⟩⟩:=h
  subst f0 f1 a0 a1 a2
  exact ⟨[.int .i64 z.test],[.int .i64 z.found,.int .i64 a],rfl,⟨rfl,b0⟩,⟨[.int .i64 z.found],[.int .i64 a],rfl,⟨rfl,b1⟩,⟨rfl,ha⟩⟩⟩
theorem Amw {C:Ctx} {b:FB} {l₀:List Oper} {Q:Env→List Deferred→Ro→Own→Prop} {pz:List Nat} {ρ₀:Ro} {fuel:Nat} {li:List Bool} {e:Env} {ds:List Deferred} {ρ:Ro} {σ:Own} {d:Nat} {op:Op} {ty:TypeId} {pos:String} {af:Array Edge} {g:Option (Nat × Bool)} {i j:Nat} {op':Op} {ty':TypeId} {pos':String} {af':Array Edge} {g':Option (Nat × Bool)} (li' li'':List Bool) (hli:li.set i true = li') (hlj:li.set j true = li'') (hr:Dl l₀ li = [i,j]) (hi:l₀[i]? = some ⟨some d,op,ty,pos,af,g⟩) (hj:l₀[j]? = some ⟨none,op',ty',pos',af',g'⟩)
    (hw:Bz l₀.toArray ⟨some d,op,ty,pos,af,g⟩ e = true) (hw':Bz l₀.toArray ⟨none,op',ty',pos',af',g'⟩ e = true)
    (h:wpS C.P ρ (execOp (Af e) ⟨some d,op,ty,pos,af,g⟩) σ (NextH C (fun v ds' ρ' σ'=>Ro.le ρ₀ ρ'∧El C b l₀.toArray Q pz (leS ρ₀) fuel li'.toArray (upd e d v) ds' ρ' σ') b.round ds ρ))
    (h':wpS C.P ρ (execOp (Af e) ⟨none,op',ty',pos',af',g'⟩) σ (NextH C (fun _ ds' ρ' σ'=>Ro.le ρ₀ ρ'∧El C b l₀.toArray Q pz (leS ρ₀) fuel li''.toArray e ds' ρ' σ') b.round ds ρ)) :
    El C b l₀.toArray Q pz (leS ρ₀) (fuel + 1) li.toArray e ds ρ σ:=by
  refine Mz ((Hh _ _).trans hr) (by simp) fun m hm=>?_
  simp only [List.mem_cons,List.not_mem_nil,or_false] at hm
  rcases hm with rfl | rfl
  · unfold OpH
    simp only [List.getElem?_toArray,hi,Mo hli]
    rw [if_pos hw]
    exact Eu (fun nx σ' hn=>hn.mono fun v ds ρ σ hh=>⟨fun _=>hh.1,hh.2⟩) _ _ h
  · unfold OpH
    simp only [List.getElem?_toArray,hj,Mo hlj]
    rw [if_pos hw']
    exact Eu (fun nx σ' hn=>hn.mono fun v ds ρ σ hh=>⟨fun _=>hh.1,hh.2⟩) _ _ h'
def Amr:List Value:=[.pointer none]
theorem Ams:Fw Tryz.prog 190 (.pointer none):=⟨_,Ab Tryz.typeInfo190,rfl⟩
theorem Adr:GoTy Tryz.prog 202 RawV:=⟨⟨_,Tryz.underlying202,rfl⟩,⟨_,Ab Tryz.typeInfo202,rfl⟩⟩
end Go.Proofs.YtphgjjmlnkgghaaGreatDoor

namespace Go.Proofs.YtphgjjmlnkgghaaGreatDoor
set_option maxHeartbeats 1000000
open Go
theorem Adz {P:Program} {ρ:Ro} {e:Env} {ty t t':TypeId} {x y:Operand} {p k:Nat} (hp:p < 32) (hb:Cu p k = true) (hx:Af e x = .int .i64 p) (hy:Af e y = iV ((1 <<< k:Nat):Int)):Yld P ρ e (.binOp .andNot t x y t') ty (iV ((p - 1 <<< k:Nat):Int)):=by
 rw [← Aao hp hb]; exact Ajs hx hy (by omega)
theorem Agp {l:Lab} {sets:List Nat} {left n:Nat} (hl:left < 32):∀ d,(Mv n fun t=>if Cu left t then Gv l sets left t else none) = some d→d ≤ 5:=by
 intro d h
 obtain ⟨t,_,ht⟩:=Ow h
 cases hb:Cu left t with
 | false=>simp [hb] at ht
 | true =>
  rw [hb,if_pos rfl] at ht
  obtain ⟨hle,hpop⟩:=Oc hl hb
  have h5:=Lg hl
  obtain ⟨a,b,ha,hb',rfl⟩:=Wm ht
  have h1:=Nc (Nat.lt_of_le_of_lt (Nat.sub_le _ _) hl) ha
  have h2:=Nc (Nat.lt_of_le_of_lt (Nat.sub_le _ _) hl) hb'
  omega
theorem Rd {l:Lab}:∀ (f:Nat) (tree:List FNode) (sets:List Nat) (left i:Nat),i < tree.length→(Ib l f tree sets left).1[i]? = tree[i]?
 | 0,tree,sets,left,i,hi=>rfl
 | f + 1,tree,sets,left,i,hi=>by
  unfold Ib
  split
  ·rfl
  ·simp only
   rw [List.getElem?_set_ne (by omega),Rd f _ _ _ i (Nat.lt_of_lt_of_le (by simp; omega) (Ob f _ _ _).1),Rd f _ _ _ i (by simp; omega),List.getElem?_append_left hi]
theorem Hz {l:Lab} {tree:List FNode} {sets:List Nat} {left i:Nat} (hi:i < tree.length):(Bp l tree sets left).1[i]? = tree[i]?:=Rd _ _ _ _ _ hi
theorem Afj:Ea (Bw (Av 0)) = true:=by decide
set_option maxRecDepth 100000 in
theorem Acx {mn:Bool} {X:Frame→List Frame→Ro→Own→Cy→Prop} {ρ:Ro} {σ:Own} {l:Lab} {vb:Value} {s left t rm:Nat} {es:Array MapEntry} {ck:Nat} (hdep:∀ {ρ:Ro} {vb:Value} {s m:Nat} {es:Array MapEntry} {ck:Nat},m < left→Glob ρ→At ρ vb (⟨l.tests.map Dr,((Bf (Hr l):Nat):Int),⟨rm⟩⟩:Bench)→s < 65536→Jo es (Sr l)→CallsH (CX mn X) 86 #[vb,.agg #[iV (s:Int),iV (m:Int)]] ρ ((rm,.obj (.map es ck)) :: σ) (fun w ρ' σ'=>ρ' = ρ∧∃ es' ck',w = iV (Dp (dep l (Av s) m))∧σ' = (rm,.obj (.map es' ck')) :: σ∧Jo es' (Sr l))) (hg:Glob ρ) (rb:At ρ vb (⟨l.tests.map Dr,((Bf (Hr l):Nat):Int),⟨rm⟩⟩:Bench)) (hl:Gh l = 0) (hs:s < 65536) (hleft:left < 32) (ht:t < l.tests.length) (hb:Cu left t = true) (hM:Jo es (Sr l)):CallsH (CX mn X) 89 #[vb,(.agg #[iV (s:Int),iV (left:Int)]),(iV ((t:Int)))] ρ (((rm,Res.obj (Obj.map es ck)) :: σ)) (fun w ρ' σ'=>ρ' = ρ∧∃ es' ck',w = iV (Nr l (Av s) left t)∧σ' = (rm,.obj (.map es' ck')) :: σ∧Jo es' (Sr l)):=by
 have hma1:=Er (l:=l) (s:=s) (r:=(⟨(t:Int),true⟩:Found))
 have hma2:=Er (l:=l) (s:=s) (r:=(⟨(t:Int),false⟩:Found))
 obtain ⟨hle,hpop⟩:=Oc hleft hb
 have h1t:1 ≤ 1 <<< t:=by rw [Nat.one_shiftLeft]; exact Nat.one_le_two_pow
 have ht5:=Ny hleft hb
 have he1:=Mi (l:=l) (sets:=Au l (Av s) (⟨(t:Int),true⟩:Found)) (left:=left - 1 <<< t) (Nat.lt_of_le_of_lt (Nat.sub_le _ _) hleft)
 have he2:=Mi (l:=l) (sets:=Au l (Av s) (⟨(t:Int),false⟩:Found)) (left:=left - 1 <<< t) (Nat.lt_of_le_of_lt (Nat.sub_le _ _) hleft)
 have hml:(l.tests.map Dr).length = l.tests.length:=by simp
 have rs0:Val ρ (.agg #[iV (s:Int),iV (left:Int)]) (⟨(s:Int),(left:Int)⟩:State):=State.shut (x:=(⟨(s:Int),(left:Int)⟩:State)) (show I64 (s:Int) from by constructor <;> omega) (show I64 (left:Int) from by constructor <;> omega)
 refine Bh (n:=33) (args:=[vb,(.agg #[iV (s:Int),iV (left:Int)]),(iV ((t:Int)))]) [6] Tryz.func89 rfl rfl rfl rfl fun Q hret hnor=>?_
 refine w_q rfl rfl fun K1 k1=>?_
 refine Arv (Eb (v:=(.agg #[iV (s:Int),iV (left:Int)])) rfl fun k2=>?_)
 refine Bb (a:=(⟨(s:Int),(left:Int)⟩:State)) rs0 fun ρ2 l2 r2=>?_
 replace rb:=At.mono l2 rb
 replace hg:=Glob.mono l2 hg
 refine l_v (Cp (v:=(iV (0))) rfl) ?_
 refine Asa k1 fun K3 k3=>?_
 refine Dc [0,1,2,3,4,5] (by kernel_rfl) rfl rfl ?_
 refine Cd (i:=0) [o1,o0,o0,o0,o0,o0] rfl (by kernel_rfl) rfl Ash rfl (Ay State.f_left Tryz.underlying201 rfl rfl ty3 (by decide) rfl r2) fun v4 r4=>?_
 have ⟨g5a,g5b⟩:=At.rng r4
 refine Bd (i:=1) [o1,o1,o0,o0,o0,o0] rfl (by kernel_rfl) rfl Ash rfl (Bc ty3 rfl r4) ?_
 refine Bg (i:=2) [o1,o1,o1,o0,o0,o0] rfl (by kernel_rfl) rfl Ash rfl (Ah (v:=(iV ((t:Int)))) rfl) ?_
 refine Bg (i:=3) [o1,o1,o1,o1,o0,o0] rfl (by kernel_rfl) rfl Ash rfl (Md (p:=1) (q:=t) rfl rfl rfl (by omega) (z:=(((1 <<< t):Nat):Int)) (Bo rfl (by omega) (by omega))) ?_
 refine Bg (i:=4) Amh rfl (by kernel_rfl) rfl Ash rfl (Adz (p:=left) (k:=t) hleft hb rfl rfl) ?_
 refine Bg (i:=5) Ami rfl (by kernel_rfl) rfl Ash rfl (Cp (v:=(iV ((((left - 1 <<< t):Nat):Int)))) rfl) ?_
 refine Ec rfl ?_
 apply k3
 refine Ai fun K6 k6=>?_
 refine Dc [0,1,2,3,4,5,6,7,8,9,10,11,12,13,14,15,16,17,18,19,20] (by kernel_rfl) rfl rfl ?_
 refine Bd (i:=0) [o1,o0,o0,o0,o0,o0,o0,o0,o0,o0,o0,o0,o0,o0,o0,o0,o0,o0,o0,o0,o0] rfl (by kernel_rfl) rfl Ash rfl (Ah (v:=vb) rfl) ?_
 refine Bd (i:=1) [o1,o1,o0,o0,o0,o0,o0,o0,o0,o0,o0,o0,o0,o0,o0,o0,o0,o0,o0,o0,o0] rfl (by kernel_rfl) rfl Ash rfl (Ah (v:=vb) rfl) ?_
 refine Cd (i:=2) [o1,o1,o1,o0,o0,o0,o0,o0,o0,o0,o0,o0,o0,o0,o0,o0,o0,o0,o0,o0,o0] rfl (by kernel_rfl) rfl Ash rfl (Ay State.f_sets Tryz.underlying201 rfl rfl Jg (by decide) rfl r2) fun v7 r7=>?_
 have ⟨g8a,g8b⟩:=At.rng r7
 refine Bd (i:=3) [o1,o1,o1,o1,o0,o0,o0,o0,o0,o0,o0,o0,o0,o0,o0,o0,o0,o0,o0,o0,o0] rfl (by kernel_rfl) rfl Ash rfl (Bc Jg rfl r7) ?_
 refine Bd (i:=4) [o1,o1,o1,o1,o1,o0,o0,o0,o0,o0,o0,o0,o0,o0,o0,o0,o0,o0,o0,o0,o0] rfl (by kernel_rfl) rfl Ash rfl (Ah (v:=(iV ((t:Int)))) rfl) ?_
 refine Bd (i:=6) [o1,o1,o1,o1,o1,o0,o1,o0,o0,o0,o0,o0,o0,o0,o0,o0,o0,o0,o0,o0,o0] rfl (by kernel_rfl) rfl Ash rfl (Ah (v:=(iV ((((left - 1 <<< t):Nat):Int)))) rfl) ?_
 refine Bd (i:=9) [o1,o1,o1,o1,o1,o0,o1,o0,o0,o1,o0,o0,o0,o0,o0,o0,o0,o0,o0,o0,o0] rfl (by kernel_rfl) rfl Ash rfl (Ah (v:=vb) rfl) ?_
 refine Bd (i:=10) [o1,o1,o1,o1,o1,o0,o1,o0,o0,o1,o1,o0,o0,o0,o0,o0,o0,o0,o0,o0,o0] rfl (by kernel_rfl) rfl Ash rfl (Ah (v:=vb) rfl) ?_
 refine Cd (i:=11) [o1,o1,o1,o1,o1,o0,o1,o0,o0,o1,o1,o1,o0,o0,o0,o0,o0,o0,o0,o0,o0] rfl (by kernel_rfl) rfl Ash rfl (Ay State.f_sets Tryz.underlying201 rfl rfl Jg (by decide) rfl r2) fun v9 r9=>?_
 have ⟨g10a,g10b⟩:=At.rng r9
 refine Bd (i:=12) [o1,o1,o1,o1,o1,o0,o1,o0,o0,o1,o1,o1,o1,o0,o0,o0,o0,o0,o0,o0,o0] rfl (by kernel_rfl) rfl Ash rfl (Bc Jg rfl r9) ?_
 refine Bd (i:=13) [o1,o1,o1,o1,o1,o0,o1,o0,o0,o1,o1,o1,o1,o1,o0,o0,o0,o0,o0,o0,o0] rfl (by kernel_rfl) rfl Ash rfl (Ah (v:=(iV ((t:Int)))) rfl) ?_
 refine Bd (i:=15) [o1,o1,o1,o1,o1,o0,o1,o0,o0,o1,o1,o1,o1,o1,o0,o1,o0,o0,o0,o0,o0] rfl (by kernel_rfl) rfl Ash rfl (Ah (v:=(iV ((((left - 1 <<< t):Nat):Int)))) rfl) ?_
 refine Dj (i:=5) [o1,o1,o1,o1,o1,o1,o1,o0,o0,o1,o1,o1,o1,o1,o0,o1,o0,o0,o0,o0,o0] rfl (by kernel_rfl) rfl rfl (Bm (Pp hg rb hl (by omega) (by omega)) Tryz.func90 rfl rfl ⟨rfl,rfl,rfl,rfl,trivial⟩ ⟨Ash,?_⟩)
 have r11:Val ρ2 (.agg #[(iV (((Bf (Au l (Av s) ⟨(t:Int),true⟩):Nat):Int))),(iV ((((left - 1 <<< t):Nat):Int)))]) (⟨((Bf (Au l (Av s) ⟨(t:Int),true⟩):Nat):Int),(((left - 1 <<< t):Nat):Int)⟩:State):=State.shut (x:=(⟨((Bf (Au l (Av s) ⟨(t:Int),true⟩):Nat):Int),(((left - 1 <<< t):Nat):Int)⟩:State)) (show I64 (((Bf (Au l (Av s) ⟨(t:Int),true⟩):Nat):Int)) from by constructor <;> omega) (show I64 ((((left - 1 <<< t):Nat):Int)) from by constructor <;> omega)
 refine Bg (i:=7) [o1,o1,o1,o1,o1,o1,o1,o1,o0,o1,o1,o1,o1,o1,o0,o1,o0,o0,o0,o0,o0] rfl (by kernel_rfl) rfl Ash rfl (Dn (ns:=[1,1]) (vs:=[(0,(iV (((Bf (Au l (Av s) ⟨(t:Int),true⟩):Nat):Int)))),(1,(iV ((((left - 1 <<< t):Nat):Int))))]) (zc:=Wr) (cs:=[(iV (((Bf (Au l (Av s) ⟨(t:Int),true⟩):Nat):Int))),(iV ((((left - 1 <<< t):Nat):Int)))]) Tryz.underlying201 Wt rfl ⟨⟨_,Ab Tryz.typeInfo191,rfl⟩,⟨_,Ab Tryz.typeInfo3,rfl⟩,trivial⟩ (EvB.map ⟨⟨rfl,rfl⟩,⟨rfl,rfl⟩,trivial⟩) ((Be (cs:=[(iV (((Bf (Au l (Av s) ⟨(t:Int),true⟩):Nat):Int)))]) rfl rfl (Nat.le_of_ble_eq_true rfl)).trans ((Be (cs:=[(iV ((((left - 1 <<< t):Nat):Int)))]) rfl rfl (Nat.le_of_ble_eq_true rfl)).trans rfl))) ?_
 refine Dj (i:=8) [o1,o1,o1,o1,o1,o1,o1,o1,o1,o1,o1,o1,o1,o1,o0,o1,o0,o0,o0,o0,o0] rfl (by kernel_rfl) rfl rfl (Cm (vs:=[vb,(.agg #[(iV (((Bf (Au l (Av s) ⟨(t:Int),true⟩):Nat):Int))),(iV ((((left - 1 <<< t):Nat):Int)))])]) (hdep (s:=Bf (Au l (Av s) ⟨(t:Int),true⟩)) (m:=(left - 1 <<< t)) (by omega) hg rb Er hM) Tryz.func86 rfl rfl ⟨rfl,rfl,trivial⟩ fun w12 ρ12 σ12 hc12=>?_)
 obtain ⟨hr12,es12,ck12,hw12,hs12,MM12⟩:=hc12
 replace hr12:=hr12.symm; subst hr12; subst hs12
 rw [Hd] at hw12
 subst hw12
 refine ⟨Ash,?_⟩
 refine Dj (i:=14) [o1,o1,o1,o1,o1,o1,o1,o1,o1,o1,o1,o1,o1,o1,o1,o1,o0,o0,o0,o0,o0] rfl (by kernel_rfl) rfl rfl (Bm (Pp hg rb hl (by omega) (by omega)) Tryz.func90 rfl rfl ⟨rfl,rfl,rfl,rfl,trivial⟩ ⟨Ash,?_⟩)
 have r13:Val ρ2 (.agg #[(iV (((Bf (Au l (Av s) ⟨(t:Int),false⟩):Nat):Int))),(iV ((((left - 1 <<< t):Nat):Int)))]) (⟨((Bf (Au l (Av s) ⟨(t:Int),false⟩):Nat):Int),(((left - 1 <<< t):Nat):Int)⟩:State):=State.shut (x:=(⟨((Bf (Au l (Av s) ⟨(t:Int),false⟩):Nat):Int),(((left - 1 <<< t):Nat):Int)⟩:State)) (show I64 (((Bf (Au l (Av s) ⟨(t:Int),false⟩):Nat):Int)) from by constructor <;> omega) (show I64 ((((left - 1 <<< t):Nat):Int)) from by constructor <;> omega)
 refine Bg (i:=16) [o1,o1,o1,o1,o1,o1,o1,o1,o1,o1,o1,o1,o1,o1,o1,o1,o1,o0,o0,o0,o0] rfl (by kernel_rfl) rfl Ash rfl (Dn (ns:=[1,1]) (vs:=[(0,(iV (((Bf (Au l (Av s) ⟨(t:Int),false⟩):Nat):Int)))),(1,(iV ((((left - 1 <<< t):Nat):Int))))]) (zc:=Wr) (cs:=[(iV (((Bf (Au l (Av s) ⟨(t:Int),false⟩):Nat):Int))),(iV ((((left - 1 <<< t):Nat):Int)))]) Tryz.underlying201 Wt rfl ⟨⟨_,Ab Tryz.typeInfo191,rfl⟩,⟨_,Ab Tryz.typeInfo3,rfl⟩,trivial⟩ (EvB.map ⟨⟨rfl,rfl⟩,⟨rfl,rfl⟩,trivial⟩) ((Be (cs:=[(iV (((Bf (Au l (Av s) ⟨(t:Int),false⟩):Nat):Int)))]) rfl rfl (Nat.le_of_ble_eq_true rfl)).trans ((Be (cs:=[(iV ((((left - 1 <<< t):Nat):Int)))]) rfl rfl (Nat.le_of_ble_eq_true rfl)).trans rfl))) ?_
 refine Dj (i:=17) [o1,o1,o1,o1,o1,o1,o1,o1,o1,o1,o1,o1,o1,o1,o1,o1,o1,o1,o0,o0,o0] rfl (by kernel_rfl) rfl rfl (Cm (vs:=[vb,(.agg #[(iV (((Bf (Au l (Av s) ⟨(t:Int),false⟩):Nat):Int))),(iV ((((left - 1 <<< t):Nat):Int)))])]) (hdep (s:=Bf (Au l (Av s) ⟨(t:Int),false⟩)) (m:=(left - 1 <<< t)) (by omega) hg rb Er MM12) Tryz.func86 rfl rfl ⟨rfl,rfl,trivial⟩ fun w14 ρ14 σ14 hc14=>?_)
 obtain ⟨hr14,es14,ck14,hw14,hs14,MM14⟩:=hc14
 replace hr14:=hr14.symm; subst hr14; subst hs14
 rw [Hd] at hw14
 subst hw14
 refine ⟨Ash,?_⟩
 refine Bg (i:=18) [o1,o1,o1,o1,o1,o1,o1,o1,o1,o1,o1,o1,o1,o1,o1,o1,o1,o1,o1,o0,o0] rfl (by kernel_rfl) rfl Ash rfl (Aqf (p:=(Dp (dep l (Au l (Av s) ⟨(t:Int),true⟩) ((left - 1 <<< t))))) (q:=(Dp (dep l (Au l (Av s) ⟨(t:Int),false⟩) ((left - 1 <<< t))))) rfl rfl) ?_
 refine Bg (i:=19) [o1,o1,o1,o1,o1,o1,o1,o1,o1,o1,o1,o1,o1,o1,o1,o1,o1,o1,o1,o1,o0] rfl (by kernel_rfl) rfl Ash rfl (Br rfl rfl (z:=(1 + (max ((Dp (dep l (Au l (Av s) ⟨(t:Int),true⟩) ((left - 1 <<< t))))) ((Dp (dep l (Au l (Av s) ⟨(t:Int),false⟩) ((left - 1 <<< t)))))))) (Bo (by first | rfl | omega | (push_cast; rfl)) (by omega) (by omega))) ?_
 refine Bg (i:=20) [o1,o1,o1,o1,o1,o1,o1,o1,o1,o1,o1,o1,o1,o1,o1,o1,o1,o1,o1,o1,o1] rfl (by kernel_rfl) rfl Ash rfl (Cp (v:=(iV ((1 + (max ((Dp (dep l (Au l (Av s) ⟨(t:Int),true⟩) ((left - 1 <<< t))))) ((Dp (dep l (Au l (Av s) ⟨(t:Int),false⟩) ((left - 1 <<< t)))))))))) rfl) ?_
 refine Ec rfl ?_
 apply k6
 refine Aj (Asf l2) ?_
 refine Aq ?_
 refine hret _ _ _ ?_
 refine ⟨rfl,es14,ck14,Eq.trans (b:=(iV ((1 + (max ((Dp (dep l (Au l (Av s) ⟨(t:Int),true⟩) ((left - 1 <<< t))))) ((Dp (dep l (Au l (Av s) ⟨(t:Int),false⟩) ((left - 1 <<< t)))))))))) rfl ?_,rfl,MM14⟩
 rfl
set_option maxRecDepth 100000 in
theorem Tc {mn:Bool} {X:Frame→List Frame→Ro→Own→Cy→Prop} {ρ:Ro} {σ:Own} {l:Lab} {vb:Value} {s left rm:Nat} {es:Array MapEntry} {ck:Nat} (hg:Glob ρ) (rb:At ρ vb (⟨l.tests.map Dr,((Bf (Hr l):Nat):Int),⟨rm⟩⟩:Bench)) (hl:Gh l = 0) (hs:s < 65536) (hleft:left < 32) (hM:Jo es (Sr l)):CallsH (CX mn X) 86 #[vb,(.agg #[iV (s:Int),iV (left:Int)])] ρ (((rm,Res.obj (Obj.map es ck)) :: σ)) (fun w ρ' σ'=>ρ' = ρ∧∃ es' ck',w = iV (Dp (dep l (Av s) left))∧σ' = (rm,.obj (.map es' ck')) :: σ∧Jo es' (Sr l)):=by
 induction left using Nat.strongRecOn generalizing vb ρ s es ck
 rename_i left ih
 have hnt:=(Ll hl).ntests
 have hml:(l.tests.map Dr).length = l.tests.length:=by simp
 have rs0:Val ρ (.agg #[iV (s:Int),iV (left:Int)]) (⟨(s:Int),(left:Int)⟩:State):=State.shut (x:=(⟨(s:Int),(left:Int)⟩:State)) (show I64 (s:Int) from by constructor <;> omega) (show I64 (left:Int) from by constructor <;> omega)
 refine Bh (n:=56) (args:=[vb,(.agg #[iV (s:Int),iV (left:Int)])]) [4] Tryz.func86 rfl rfl rfl rfl fun Q hret hnor=>?_
 refine w_q rfl rfl fun K1 k1=>?_
 refine Arv (Eb (v:=(.agg #[iV (s:Int),iV (left:Int)])) rfl fun k2=>?_)
 refine Bb (a:=(⟨(s:Int),(left:Int)⟩:State)) rs0 fun ρ2 l2 r2=>?_
 replace rb:=At.mono l2 rb
 replace hg:=Glob.mono l2 hg
 refine l_v (Cp (v:=(iV (0))) rfl) ?_
 refine Ary rfl rfl k1 fun K3 K4 k3 k4=>?_
 refine Arw (Ay State.f_sets Tryz.underlying201 rfl rfl Jg (by decide) rfl r2) fun v5 r5=>?_
 have ⟨g6a,g6b⟩:=At.rng r5
 refine l_v (Bc Jg rfl r5) ?_
 refine Arv (Bm (Te (by omega)) Tryz.func88 rfl rfl ⟨rfl,trivial⟩ ?_)
 refine l_v (Ah (v:=(.bool (Ea (Bw (Av s))))) rfl) ?_
 refine Cn (Ea (Bw (Av s))) (fun b7=>?_) (fun b7=>?_)
 ·refine Ap (Bl rfl rfl rfl b7) ?_
  refine Ap (Bl rfl rfl rfl b7) ?_
  refine Ap (Bl rfl rfl rfl b7) ?_
  refine l_v (Bt rfl b7 (v:=(.bool (true))) rfl) ?_
  refine l_k k4 ?_
  refine Co rfl rfl ?_
  refine w_q rfl rfl fun K8 k8=>?_
  refine l_v (Cp (v:=(iV (0))) rfl) ?_
  refine l_k k8 ?_
  refine Aj (Asf l2) ?_
  refine Aq ?_
  refine hret _ _ _ ?_
  refine ⟨rfl,es,ck,Eq.trans (b:=(iV (0))) rfl ?_,rfl,hM⟩
  rw [Tk hleft,if_pos b7]; rfl
 refine Ak (Ar rfl rfl rfl b7) (Ax Oq rfl r2) fun v9 r9=>?_
 refine Ak (Ar rfl rfl rfl b7) (Ax Oq rfl (Aez hg)) fun v10 r10=>?_
 obtain ⟨e11_,⟨i11_1a,i11_1b⟩,⟨i11_2a,i11_2b⟩⟩:=State.open_ r9
 have e11_c:v9.cells = [(iV ((s:Int))),(iV ((left:Int)))].toArray:=by rw [e11_]; rfl
 obtain ⟨e12_,⟨i12_1a,i12_1b⟩,⟨i12_2a,i12_2b⟩⟩:=State.open_ r10
 have e12_c:v10.cells = [(iV (0)),(iV (0))].toArray:=by rw [e12_]; rfl
 refine Aa (Ar rfl rfl rfl b7) (Acg (ps:=[(s:Int),(left:Int)]) (qs:=[0,0]) Tryz.underlying201 (by kernel_rfl) (by kernel_rfl) (rfl.trans e11_) (rfl.trans e12_) ⟨⟨by decide,_,Tryz.underlying191,rfl,rfl⟩,⟨by decide,_,Tryz.underlying3,rfl,rfl⟩,trivial⟩) ?_
 refine l_v (Bn rfl b7 (v:=(.bool (decide ([(s:Int),(left:Int)] = [0,0])))) rfl) ?_
 refine l_k k4 ?_
 refine As (t:=decide ([(s:Int),(left:Int)] = [0,0])) rfl (fun b13=>?_) (fun b13=>?_)
 ·have q13:=of_decide_eq_true b13
  refine w_q rfl rfl fun K14 k14=>?_
  refine l_v (Cp (v:=(iV (0))) rfl) ?_
  refine l_k k14 ?_
  refine Aj (Asf l2) ?_
  refine Aq ?_
  refine hret _ _ _ ?_
  refine ⟨rfl,es,ck,Eq.trans (b:=(iV (0))) rfl ?_,rfl,hM⟩
  have hs0:s = 0:=by have:=(List.cons.inj q13).1; omega
  rw [hs0,Afj] at b7; cases b7
 have q13:=of_decide_eq_false b13
 refine Al ?_
 apply k3
 refine Ai fun K15 k15=>?_
 refine Ai fun K16 k16=>?_
 refine Dc [0,1,2,3,4,5,6,7,8,9,10] (by kernel_rfl) rfl rfl ?_
 refine Bd (i:=0) [o1,o0,o0,o0,o0,o0,o0,o0,o0,o0,o0] rfl (by kernel_rfl) rfl Ash rfl (Ah (v:=vb) rfl) ?_
 refine Bd (i:=1) [o1,o1,o0,o0,o0,o0,o0,o0,o0,o0,o0] rfl (by kernel_rfl) rfl Ash rfl (Hj rfl rb) ?_
 refine Cd (i:=2) [o1,o1,o1,o0,o0,o0,o0,o0,o0,o0,o0] rfl (by kernel_rfl) rfl Ash rfl (Ay Bench.f_depths Tryz.underlying258 rfl rfl Adt (by decide) rfl rb) fun v17 r17=>?_
 refine Bd (i:=3) [o1,o1,o1,o1,o0,o0,o0,o0,o0,o0,o0] rfl (by kernel_rfl) rfl Ash rfl (Va Adt rfl r17) ?_
 refine Hk (i:=4) [o1,o1,o1,o1,o1,o0,o0,o0,o0,o0,o0] rfl (by kernel_rfl) rfl Ash rfl (Ax Oq rfl r2) fun v19 r19=>?_
 obtain ⟨e20_,⟨i20_1a,i20_1b⟩,⟨i20_2a,i20_2b⟩⟩:=State.open_ r19
 have e20_c:v19.cells = [(iV ((s:Int))),(iV ((left:Int)))].toArray:=by rw [e20_]; rfl
 refine Dj (i:=5) Aop rfl (by kernel_rfl) rfl rfl (Xp (i:=0) (kt:=201) (et:=3) (a:=(s:Int)) (b:=(left:Int)) Tryz.underlying256 Aic zr3 hM rfl (rfl.trans e20_) rfl ⟨Ash,?_⟩ fun w21 hw21=>⟨Ash,?_⟩)
 ·refine Bg (i:=6) zZ2 rfl (by kernel_rfl) rfl Ash rfl (Ah (v:=(.tuple #[(iV (0)),(.bool (false))])) rfl) ?_
  refine Bd (i:=7) zZ3 rfl (by kernel_rfl) rfl Ash rfl (Bk (vs:=#[(iV (0)),(.bool (false))]) rfl (v:=(iV (0))) rfl) ?_
  refine Bd (i:=8) zZ4 rfl (by kernel_rfl) rfl Ash rfl (Bk (vs:=#[(iV (0)),(.bool (false))]) rfl (v:=(.bool (false))) rfl) ?_
  refine Bg (i:=9) zZ5 rfl (by kernel_rfl) rfl Ash rfl (Cp (v:=(iV (0))) rfl) ?_
  refine Bg (i:=10) zZ6 rfl (by kernel_rfl) rfl Ash rfl (Cp (v:=(.bool (false))) rfl) ?_
  refine Ec rfl ?_
  apply k16
  refine w_q rfl rfl fun K22 k22=>?_
  refine l_v (Ah (v:=(.bool (false))) rfl) ?_
  refine l_k k22 ?_
  refine Cg rfl rfl ?_
  refine Al ?_
  apply k15
  refine w_q rfl rfl fun K23 k23=>?_
  refine l_v (Cp (v:=(iV (1048576))) rfl) ?_
  refine Ary rfl rfl k23 fun K24 K25 k24 k25=>?_
  refine l_v (Ah (v:=vb) rfl) ?_
  refine l_v (Hj rfl rb) ?_
  refine Arw (Ay Bench.f_probes Tryz.underlying258 rfl rfl Wl (by decide) rfl rb) fun v26 r26=>?_
  refine Arw (Ax Wl rfl r26) fun v27 r27=>?_
  have g28:=Val.len r27
  refine l_v (Ci (el:=262) Tryz.underlying255 rfl r27) ?_
  refine l_v (Ah (v:=(iV (0))) rfl) ?_
  refine l_k k25 ?_
  refine Ao ?_
  refine Cc (fun mm ee dd ρ' σ'=>∃ (t:Nat) (x:Int) (me29_rm:Array MapEntry) (mc29_rm:Nat),(l.tests.length - t) = mm∧[] = dd∧ρ2 = ρ'∧((rm,Res.obj (Obj.map me29_rm mc29_rm)) :: σ) = σ'∧ee 0 = vb∧ee 3 = (.pointer (some ⟨k2,0,none⟩))∧ee 32 = (iV ((((l.tests.map Dr).length:Nat):Int)))∧ee 7 = (iV (x))∧ee 33 = (iV ((t:Int)))∧(t ≤ l.tests.length)∧(x = Dp (Mv t fun t=>if Cu left t then Gv l (Av s) left t else none))∧Jo me29_rm (Sr l)∧True) (m:=_) ⟨0,1048576,es,ck,rfl,rfl,rfl,rfl,rfl,rfl,rfl,rfl,rfl,(Nat.zero_le _),rfl,hM,trivial⟩ ?_
  rintro m29 e29 _ _ _ ⟨t,x,me29_rm,mc29_rm,rfl,rfl,rfl,rfl,h29_0,h29_3,h29_32,h29_7,h29_33,p29_0,p29_1,MQ29_rm,_⟩
  refine w_q rfl rfl fun K30 k30=>?_
  refine l_v (Da h29_33 h29_32) ?_
  refine Asa k30 fun K31 k31=>?_
  refine As (t:=decide ((t:Int) < (((l.tests.map Dr).length:Nat):Int))) rfl (fun b32=>?_) (fun b32=>?_)
  ·have q32:=of_decide_eq_true b32
   refine Al ?_
   apply k31
   refine Ai fun K33 k33=>?_
   refine Ao ?_
   refine w_q rfl rfl fun K34 k34=>?_
   refine l_v (Ah (v:=(iV ((t:Int)))) h29_33) ?_
   refine l_v (Cp (v:=(iV ((t:Int)))) rfl) ?_
   refine Arx rfl rfl k34 fun K35 k35=>?_
   refine Arw (Ay State.f_left Tryz.underlying201 rfl rfl ty3 (by decide) h29_3 r2) fun v36 r36=>?_
   have ⟨g37a,g37b⟩:=At.rng r36
   refine l_v (Bc ty3 rfl r36) ?_
   refine l_v (Ah (v:=(iV ((t:Int)))) rfl) ?_
   refine l_v (Lc (p:=left) (q:=t) rfl rfl rfl (by omega)) ?_
   refine l_v (Qs (p:=(left >>> t)) (q:=1) rfl rfl (Nl (by omega))) ?_
   refine l_v (Ek rfl rfl) ?_
   refine l_k k35 ?_
   refine As (t:=((((left >>> t) &&& 1):Nat):Int) == 1) rfl (fun b38=>?_) (fun b38=>?_)
   ·have hbt39:=bitA.symm.trans b38
    have q38:=Jr b38
    refine Ag rfl rfl ?_
    refine l_v (Ah (v:=(iV (x))) h29_7) ?_
    refine l_v (Ah (v:=vb) h29_0) ?_
    refine Arw (Ax Oq h29_3 r2) fun v40 r40=>?_
    refine l_v (Ah (v:=(iV ((t:Int)))) rfl) ?_
    obtain ⟨e41_,⟨i41_1a,i41_1b⟩,⟨i41_2a,i41_2b⟩⟩:=State.open_ r40
    have e41_c:v40.cells = [(iV ((s:Int))),(iV ((left:Int)))].toArray:=by rw [e41_]; rfl
    refine Arv (Cm (vs:=[vb,(.agg #[(iV ((s:Int))),(iV ((left:Int)))]),(iV ((t:Int)))]) (Acx (s:=s) (left:=left) (t:=t) (fun hm hg rb hs hM=>ih _ hm hg rb hs (Nat.lt_trans hm hleft) hM) hg rb hl hs hleft (by omega) hbt39 MQ29_rm) Tryz.func89 rfl rfl ⟨rfl,(rfl.trans e41_),rfl,trivial⟩ fun w42 ρ42 σ42 hc42=>?_)
    obtain ⟨hr42,es42,ck42,hw42,hs42,MM42⟩:=hc42
    replace hr42:=hr42.symm; subst hr42; subst hs42
    subst hw42
    refine l_v (Ajx (p:=x) (q:=(Nr l (Av s) left t)) rfl rfl) ?_
    refine l_v (Cp (v:=(iV ((min x ((Nr l (Av s) left t)))))) rfl) ?_
    refine l_k k33 ?_
    refine Ag rfl rfl ?_
    refine l_v (Br h29_33 rfl (z:=(((t + 1):Nat):Int)) (Bo (by first | rfl | omega | (push_cast; rfl)) (by omega) (by omega))) ?_
    refine l_v (Ah (v:=(iV ((((t + 1):Nat):Int)))) rfl) ?_
    apply Ac
    refine ⟨_,?_,((t + 1)),((min x ((Nr l (Av s) left t)))),es42,ck42,rfl,rfl,rfl,rfl,h29_0,h29_3,h29_32,rfl,rfl,(by omega),(by rw [Hx,hbt39,if_pos rfl,← Afu hleft (Agp hleft),← p29_1]),MM42,trivial⟩
    omega
   have hbt43:=bitA.symm.trans b38
   have q38:=Jq b38
   refine Al ?_
   apply k33
   refine Ag rfl rfl ?_
   refine l_v (Br h29_33 rfl (z:=(((t + 1):Nat):Int)) (Bo (by first | rfl | omega | (push_cast; rfl)) (by omega) (by omega))) ?_
   refine l_v (Ah (v:=(iV ((((t + 1):Nat):Int)))) rfl) ?_
   apply Ac
   refine ⟨_,?_,((t + 1)),(x),me29_rm,mc29_rm,rfl,rfl,rfl,rfl,h29_0,h29_3,h29_32,h29_7,rfl,(by omega),(by rw [Hx,hbt43,if_neg (by simp),Rh]; exact p29_1),MQ29_rm,trivial⟩
   omega
  have q32:=of_decide_eq_false b32
  refine Bx ?_
  apply k24
  refine Ai fun K44 k44=>?_
  refine Dc [0,1,2,3,4,5,6] (by kernel_rfl) rfl rfl ?_
  refine Bd (i:=0) Apb rfl (by kernel_rfl) rfl Ash rfl (Ah (v:=vb) h29_0) ?_
  refine Bd (i:=1) [o1,o1,o0,o0,o0,o0,o0] rfl (by kernel_rfl) rfl Ash rfl (Hj rfl rb) ?_
  refine Cd (i:=2) [o1,o1,o1,o0,o0,o0,o0] rfl (by kernel_rfl) rfl Ash rfl (Ay Bench.f_depths Tryz.underlying258 rfl rfl Adt (by decide) rfl rb) fun v45 r45=>?_
  refine Bd (i:=3) Apc rfl (by kernel_rfl) rfl Ash rfl (Va Adt rfl r45) ?_
  refine Cd (i:=4) Apd rfl (by kernel_rfl) rfl Ash rfl (Ax Oq h29_3 r2) fun v47 r47=>?_
  refine Bg (i:=5) Ape rfl (by kernel_rfl) rfl Ash rfl (Ah (v:=(iV (x))) h29_7) ?_
  obtain ⟨e48_,⟨i48_1a,i48_1b⟩,⟨i48_2a,i48_2b⟩⟩:=State.open_ r47
  have e48_c:v47.cells = [(iV ((s:Int))),(iV ((left:Int)))].toArray:=by rw [e48_]; rfl
  refine Fg (i:=6) Apf rfl (by kernel_rfl) rfl rfl (Afs (i:=0) (kt:=201) (et:=3) (a:=(s:Int)) (b:=(left:Int)) (w:=(iV (x))) Tryz.underlying256 Aic MQ29_rm ⟨s,left,rfl,rfl,by rw [Tk hleft,if_neg (by simp [b7]),p29_1,show t = l.tests.length by omega]⟩ rfl (rfl.trans e48_) rfl rfl fun es49 ck49 MM49=>⟨Ash,?_⟩)
  refine Ec rfl ?_
  apply k44
  refine w_q rfl rfl fun K50 k50=>?_
  refine l_v (Ah (v:=(iV (x))) h29_7) ?_
  refine l_v (Cp (v:=(iV (x))) rfl) ?_
  refine l_k k50 ?_
  refine Aj (Asf l2) ?_
  refine Aq ?_
  refine hret _ _ _ ?_
  refine ⟨rfl,es49,ck49,Eq.trans (b:=(iV (x))) rfl ?_,rfl,MM49⟩
  rw [Tk hleft,if_neg (by simp [b7]),p29_1,show t = l.tests.length by omega]
 obtain rfl:=Ahk hw21
 refine Bg (i:=6) zZ2 rfl (by kernel_rfl) rfl Ash rfl (Ah (v:=(.tuple #[(iV ((Dp (dep l (Av s) left)))),(.bool (true))])) rfl) ?_
 refine Bd (i:=7) zZ3 rfl (by kernel_rfl) rfl Ash rfl (Bk (vs:=#[(iV ((Dp (dep l (Av s) left)))),(.bool (true))]) rfl (v:=(iV ((Dp (dep l (Av s) left))))) rfl) ?_
 refine Bd (i:=8) zZ4 rfl (by kernel_rfl) rfl Ash rfl (Bk (vs:=#[(iV ((Dp (dep l (Av s) left)))),(.bool (true))]) rfl (v:=(.bool (true))) rfl) ?_
 refine Bg (i:=9) zZ5 rfl (by kernel_rfl) rfl Ash rfl (Cp (v:=(iV ((Dp (dep l (Av s) left))))) rfl) ?_
 refine Bg (i:=10) zZ6 rfl (by kernel_rfl) rfl Ash rfl (Cp (v:=(.bool (true))) rfl) ?_
 refine Ec rfl ?_
 apply k16
 refine w_q rfl rfl fun K51 k51=>?_
 refine l_v (Ah (v:=(.bool (true))) rfl) ?_
 refine l_k k51 ?_
 refine Co rfl rfl ?_
 refine w_q rfl rfl fun K52 k52=>?_
 refine l_v (Ah (v:=(iV ((Dp (dep l (Av s) left))))) rfl) ?_
 refine l_v (Cp (v:=(iV ((Dp (dep l (Av s) left))))) rfl) ?_
 refine l_k k52 ?_
 refine Aj (Asf l2) ?_
 refine Aq ?_
 refine hret _ _ _ ?_
 refine ⟨rfl,es,ck,Eq.trans (b:=(iV ((Dp (dep l (Av s) left))))) rfl ?_,rfl,hM⟩
 rfl
set_option maxRecDepth 100000 in
theorem Akq {mn:Bool} {X:Frame→List Frame→Ro→Own→Cy→Prop} {ρ:Ro} {σ:Own} {l:Lab} {vpb vpf vt:Value} {tree:List FNode} {gr:Own} {s left d rm rt:Nat} {es:Array MapEntry} {ck:Nat} (hg:Glob ρ) (rpb:At ρ vpb (Ptr.mk (⟨l.tests.map Dr,((Bf (Hr l):Nat):Int),⟨rm⟩⟩:Bench):Ptr Bench)) (rpf:At ρ vpf (RawV.mk (.func (.func 87) #[] #[vpb,.pointer (some ⟨rt,0,none⟩),vpf]))) (G0:Grow ρ 127 vt tree gr) (hl:Gh l = 0) (hs:s < 65536) (hleft:left < 32) (hd:dep l (Av s) left = some d) (hlen:tree.length + 2 ^ (De left + 1) ≤ 1000000) (hM:Jo es (Sr l)):CallsH (CX mn X) 87 #[(.agg #[iV (s:Int),iV (left:Int)]),vpb,(.pointer (some ⟨rt,0,none⟩)),vpf] ρ ((gr ++ ((rt,oC #[vt] 114) :: ((rm,Res.obj (Obj.map es ck)) :: σ)))) (fun w ρ' σ'=>Ro.le ρ ρ'∧∃ v' gr' es' ck',w = iV (Bp l tree (Av s) left).2∧σ' = gr' ++ ((rt,.obj (.cells #[v'] 114 (0,0))) :: (rm,.obj (.map es' ck')) :: σ)∧Grow ρ' 127 v' (Bp l tree (Av s) left).1 gr'∧Jo es' (Sr l)):=by
 induction left using Nat.strongRecOn generalizing tree s d vt vpb vpf ρ gr es ck
 rename_i left ih
 have hnt:=(Ll hl).ntests
 have hpp:=Nat.one_le_two_pow (n:=De left)
 have rs0:Val ρ (.agg #[iV (s:Int),iV (left:Int)]) (⟨(s:Int),(left:Int)⟩:State):=State.shut (x:=(⟨(s:Int),(left:Int)⟩:State)) (show I64 (s:Int) from by constructor <;> omega) (show I64 (left:Int) from by constructor <;> omega)
 refine Bh (n:=73) (args:=[(.agg #[iV (s:Int),iV (left:Int)]),vpb,(.pointer (some ⟨rt,0,none⟩)),vpf]) [5] Tryz.func87 rfl rfl rfl rfl fun Q hret hnor=>?_
 refine w_q rfl rfl fun K1 k1=>?_
 refine Arv (Eb (v:=(.agg #[iV (s:Int),iV (left:Int)])) rfl fun k2=>?_)
 refine Bb (a:=(⟨(s:Int),(left:Int)⟩:State)) rs0 fun ρ2 l2 r2=>?_
 replace rpb:=At.mono l2 rpb
 replace rpf:=At.mono l2 rpf
 replace hg:=Glob.mono l2 hg
 replace G0:=Grow.mono l2 G0
 refine l_v (Cp (v:=(iV (0))) rfl) ?_
 refine Ary rfl rfl k1 fun K3 K4 k3 k4=>?_
 refine Arw (Ay State.f_sets Tryz.underlying201 rfl rfl Jg (by decide) rfl r2) fun v5 r5=>?_
 have ⟨g6a,g6b⟩:=At.rng r5
 refine l_v (Bc Jg rfl r5) ?_
 refine Arv (Bm (Te (by omega)) Tryz.func88 rfl rfl ⟨rfl,trivial⟩ ?_)
 refine l_k k4 ?_
 refine As (t:=Ea (Bw (Av s))) rfl (fun b7=>?_) (fun b7=>?_)
 ·refine w_q rfl rfl fun K8 k8=>?_
  refine l_v (Cp (v:=(iV ((-1)))) rfl) ?_
  refine l_k k8 ?_
  refine Aq ?_
  refine hret _ _ _ ?_
  refine ⟨l2,vt,gr,es,ck,Eq.trans (b:=(iV ((-1)))) rfl ?_,rfl,Fy ?_ G0,hM⟩
  ·rw [Om b7]
  ·rw [Om b7]
 refine Al ?_
 apply k3
 refine w_q rfl rfl fun K9 k9=>?_
 refine l_v (Cp (v:=(iV (0))) rfl) ?_
 refine Asa k9 fun K10 k10=>?_
 refine Ao ?_
 have hset:=b7
 obtain ⟨ta1,ta2,ta3,ta4⟩:=Adp hleft hd hset
 refine Cc (fun mm ee dd ρ' σ'=>∃ (t:Nat) (me11_rm:Array MapEntry) (mc11_rm:Nat),(Dm l (Av s) left - t) = mm∧[] = dd∧ρ2 = ρ'∧(gr ++ ((rt,oC #[vt] 114) :: ((rm,Res.obj (Obj.map me11_rm mc11_rm)) :: σ))) = σ'∧ee 1 = vpb∧ee 2 = (.pointer (some ⟨rt,0,none⟩))∧ee 3 = vpf∧ee 4 = (.pointer (some ⟨k2,0,none⟩))∧ee 6 = (iV ((t:Int)))∧(t ≤ Dm l (Av s) left)∧Jo me11_rm (Sr l)∧True) (m:=_) ⟨0,es,ck,rfl,rfl,rfl,rfl,rfl,rfl,rfl,rfl,rfl,(Nat.zero_le _),hM,trivial⟩ ?_
 rintro m11 e11 _ _ _ ⟨t,me11_rm,mc11_rm,rfl,rfl,rfl,rfl,h11_1,h11_2,h11_3,h11_4,h11_6,p11_0,MQ11_rm,_⟩
 refine Ai fun K12 k12=>?_
 refine Ai fun K13 k13=>?_
 refine Dc [0,1,2,3,4,5,6,7,8,9,10,11,12,13,14,15] (by kernel_rfl) rfl rfl ?_
 refine Cd (i:=0) Aqz rfl (by kernel_rfl) rfl Ash rfl (Ay State.f_left Tryz.underlying201 rfl rfl ty3 (by decide) h11_4 r2) fun v14 r14=>?_
 have ⟨g15a,g15b⟩:=At.rng r14
 refine Bd (i:=1) Ara rfl (by kernel_rfl) rfl Ash rfl (Bc ty3 rfl r14) ?_
 refine Bg (i:=2) Arb rfl (by kernel_rfl) rfl Ash rfl (Ah (v:=(iV ((t:Int)))) h11_6) ?_
 refine Bg (i:=3) Arc rfl (by kernel_rfl) rfl Ash rfl (Lc (p:=left) (q:=t) rfl rfl rfl (by omega)) ?_
 refine Bg (i:=4) Ard rfl (by kernel_rfl) rfl Ash rfl (Qs (p:=(left >>> t)) (q:=1) rfl rfl (Nl (by omega))) ?_
 refine Bg (i:=5) Are rfl (by kernel_rfl) rfl Ash rfl (Ek rfl rfl) ?_
 refine Bg (i:=6) Arf rfl (by kernel_rfl) rfl Ash rfl (Ah (v:=(.bool (((((left >>> t) &&& 1):Nat):Int) == 0))) rfl) ?_
 refine Akk (((((left >>> t) &&& 1):Nat):Int) == 0) (fun b16=>?_) (fun b16=>?_)
 ·have hbt17:=not_eq_t (bitA0.symm.trans b16)
  have q16:=Jr b16
  refine Sw (i:=7) Anr rfl (by kernel_rfl) rfl Ash (Bl rfl rfl rfl b16) ?_
  refine Sw (i:=8) Ans rfl (by kernel_rfl) rfl Ash (Bl rfl rfl rfl b16) ?_
  refine Sw (i:=9) Ant rfl (by kernel_rfl) rfl Ash (Bl rfl rfl rfl b16) ?_
  refine Sw (i:=11) Arg rfl (by kernel_rfl) rfl Ash (Bl rfl rfl rfl b16) ?_
  refine Sw (i:=12) Arh rfl (by kernel_rfl) rfl Ash (Bl rfl rfl rfl b16) ?_
  refine Wv (i:=10) Anu rfl (by kernel_rfl) rfl Ash (Bl rfl rfl rfl b16) ?_
  refine Wv (i:=13) Anv rfl (by kernel_rfl) rfl Ash (Bl rfl rfl rfl b16) ?_
  refine Wv (i:=14) Anw rfl (by kernel_rfl) rfl Ash (Bl rfl rfl rfl b16) ?_
  refine Bg (i:=15) Anx rfl (by kernel_rfl) rfl Ash rfl (Bt rfl b16 (v:=(.bool (true))) rfl) ?_
  refine Ec rfl ?_
  apply k13
  refine Co rfl rfl ?_
  refine Al ?_
  apply k12
  refine Ao ?_
  refine Ag rfl rfl ?_
  refine l_v (Ah (v:=(iV ((t:Int)))) h11_6) ?_
  refine l_v (Br rfl rfl (z:=(((t + 1):Nat):Int)) (Bo (by first | rfl | omega | (push_cast; rfl)) (by omega) (by omega))) ?_
  refine l_v (Cp (v:=(iV ((((t + 1):Nat):Int)))) rfl) ?_
  apply Ac
  refine ⟨_,?_,((t + 1)),me11_rm,mc11_rm,rfl,rfl,rfl,rfl,h11_1,h11_2,h11_3,h11_4,rfl,(Of ta2 ta3 hd p11_0 (Wh hbt17)),MQ11_rm,trivial⟩
  have:=Of ta2 ta3 hd p11_0 (Wh hbt17); omega
 have hbt18:=not_eq_f (bitA0.symm.trans b16)
 have q16:=Jq b16
 refine Cd (i:=7) Anr rfl (by kernel_rfl) rfl Ash (Ar rfl rfl rfl b16) (Ax Sc h11_1 rpb) fun v19 r19=>?_
 replace r19:=Ir.1 r19
 refine Cd (i:=8) Ans rfl (by kernel_rfl) rfl Ash (Ar rfl rfl rfl b16) (Ax Oq h11_4 r2) fun v20 r20=>?_
 refine Bd (i:=9) Ant rfl (by kernel_rfl) rfl Ash (Ar rfl rfl rfl b16) (Ah (v:=(iV ((t:Int)))) h11_6) ?_
 refine Cd (i:=11) Arg rfl (by kernel_rfl) rfl Ash (Ar rfl rfl rfl b16) (Ax Sc h11_1 rpb) fun v21 r21=>?_
 replace r21:=Ir.1 r21
 refine Cd (i:=12) Arh rfl (by kernel_rfl) rfl Ash (Ar rfl rfl rfl b16) (Ax Oq h11_4 r2) fun v22 r22=>?_
 obtain ⟨e23_,⟨i23_1a,i23_1b⟩,⟨i23_2a,i23_2b⟩⟩:=State.open_ r20
 have e23_c:v20.cells = [(iV ((s:Int))),(iV ((left:Int)))].toArray:=by rw [e23_]; rfl
 refine Ej (Asg ((p_a Arz).trans Asd)) id ?_
 refine Dj (i:=10) Anu rfl (by kernel_rfl) rfl (Ar rfl rfl rfl b16) (Cm (vs:=[v19,(.agg #[(iV ((s:Int))),(iV ((left:Int)))]),(iV ((t:Int)))]) (Acx (s:=s) (left:=left) (t:=t) (fun hm hg rb hs hM=>Tc hg rb hl hs (Nat.lt_trans hm hleft) hM) hg r19 hl hs hleft (by omega) hbt18 MQ11_rm) Tryz.func89 rfl rfl ⟨rfl,(rfl.trans e23_),rfl,trivial⟩ fun w24 ρ24 σ24 hc24=>?_)
 obtain ⟨hr24,es24,ck24,hw24,hs24,MM24⟩:=hc24
 replace hr24:=hr24.symm; subst hr24; subst hs24
 subst hw24
 refine ⟨Ash,?_⟩
 obtain ⟨e25_,⟨i25_1a,i25_1b⟩,⟨i25_2a,i25_2b⟩⟩:=State.open_ r22
 have e25_c:v22.cells = [(iV ((s:Int))),(iV ((left:Int)))].toArray:=by rw [e25_]; rfl
 refine Dj (i:=13) Anv rfl (by kernel_rfl) rfl (Ar rfl rfl rfl b16) (Cm (vs:=[v21,(.agg #[(iV ((s:Int))),(iV ((left:Int)))])]) (Tc hg r21 hl hs hleft MM24) Tryz.func86 rfl rfl ⟨rfl,(rfl.trans e25_),trivial⟩ fun w26 ρ26 σ26 hc26=>?_)
 obtain ⟨hr26,es26,ck26,hw26,hs26,MM26⟩:=hc26
 replace hr26:=hr26.symm; subst hr26; subst hs26
 subst hw26
 refine ⟨Ash,?_⟩
 refine Bg (i:=14) Anw rfl (by kernel_rfl) rfl Ash (Ar rfl rfl rfl b16) (Dg rfl rfl) ?_
 refine Bg (i:=15) Anx rfl (by kernel_rfl) rfl Ash rfl (Bn rfl b16 (v:=(.bool ((Nr l (Av s) left t) != (Dp (dep l (Av s) left))))) rfl) ?_
 refine Ec rfl ?_
 apply k13
 refine As (t:=(Nr l (Av s) left t) != (Dp (dep l (Av s) left))) rfl (fun b27=>?_) (fun b27=>?_)
 ·have hwe28:=(Zy hleft hd).symm.trans b27
  have q27:=Ls b27
  refine Al ?_
  apply k12
  refine Ao ?_
  refine Ag rfl rfl ?_
  refine l_v (Ah (v:=(iV ((t:Int)))) h11_6) ?_
  refine l_v (Br rfl rfl (z:=(((t + 1):Nat):Int)) (Bo (by first | rfl | omega | (push_cast; rfl)) (by omega) (by omega))) ?_
  refine l_v (Cp (v:=(iV ((((t + 1):Nat):Int)))) rfl) ?_
  refine Bj (Asg ((p_c Asd).trans Arz)) ?_
  refine Bj (Asg ((p_c Asc).trans Asc)) ?_
  apply Ac
  refine ⟨_,?_,((t + 1)),es26,ck26,rfl,rfl,rfl,rfl,h11_1,h11_2,h11_3,h11_4,rfl,(Of ta2 ta3 hd p11_0 (Wi hwe28)),MM26,trivial⟩
  have:=Of ta2 ta3 hd p11_0 (Wi hwe28); omega
 have hwe29:=(Zy hleft hd).symm.trans b27
 have htt:=Aly p11_0 ta4 (Ajl hbt18 hwe29)
 rw [← htt] at ta2 ta3
 obtain ⟨da,db,hda,hdb,hdd⟩:=Wm ta3
 obtain ⟨hle,hpop⟩:=Oc hleft ta2
 have h1t:1 ≤ 1 <<< t:=by rw [Nat.one_shiftLeft]; exact Nat.one_le_two_pow
 have ht5:=Ny hleft ta2
 have hpw:2 ^ (De left + 1) = 2 * 2 ^ (De (left - 1 <<< t) + 1):=by rw [hpop,Nat.pow_succ]; omega
 have hp1:=Nat.one_le_two_pow (n:=De (left - 1 <<< t) + 1)
 have hma1:=Er (l:=l) (s:=s) (r:=(⟨(t:Int),true⟩:Found))
 have hma2:=Er (l:=l) (s:=s) (r:=(⟨(t:Int),false⟩:Found))
 have q27:=Jh b27
 refine Bx ?_
 apply k10
 refine w_q rfl rfl fun K30 k30=>?_
 refine Arv (Gu (v:=vt) ⟨_,Tryz.underlying114,rfl⟩ h11_2 (List.mem_cons_of_mem _ (List.mem_append_right _ (List.mem_cons_self ..))) rfl ?_)
 have g31:=Grow.len G0
 refine l_v (Ajw (el':=127) Tryz.underlying114 rfl G0) ?_
 refine l_v (Cp (v:=(iV (((tree.length:Nat):Int)))) rfl) ?_
 refine Arx rfl rfl k30 fun K32 k32=>?_
 refine Arv (Gu (v:=vt) ⟨_,Tryz.underlying114,rfl⟩ h11_2 (List.mem_cons_of_mem _ (List.mem_append_right _ (List.mem_cons_self ..))) rfl ?_)
 refine l_v (Ah (v:=(iV ((t:Int)))) h11_6) ?_
 have r33:Val ρ2 (.agg #[(iV ((t:Int))),(iV (0)),(iV (0))]) (⟨(t:Int),0,0⟩:FNode):=FNode.shut (x:=(⟨(t:Int),0,0⟩:FNode)) (show I64 ((t:Int)) from by constructor <;> omega) (show I64 (0) from by constructor <;> omega) (show I64 (0) from by constructor <;> omega)
 refine l_v (Dn (ns:=[1,1,1]) (vs:=[(0,(iV ((t:Int))))]) (zc:=Amm) (cs:=[(iV ((t:Int))),(iV (0)),(iV (0))]) Tryz.underlying127 Agc rfl ⟨⟨_,Ab Tryz.typeInfo3,rfl⟩,⟨_,Ab Tryz.typeInfo3,rfl⟩,⟨_,Ab Tryz.typeInfo3,rfl⟩,trivial⟩ (EvB.map ⟨⟨rfl,rfl⟩,trivial⟩) ((Be (cs:=[(iV ((t:Int)))]) rfl rfl (Nat.le_of_ble_eq_true rfl)).trans rfl)) ?_
 refine Arv (Bi (α:=FNode) (xs:=[(⟨(t:Int),0,0⟩:FNode)]) (vs:=[(.agg #[(iV ((t:Int))),(iV (0)),(iV (0))])]) Tryz.underlying114 ty94 Agc rfl (by decide) (Dk (os:=[.tmp 36]) ⟨rfl,trivial⟩) ⟨r33,trivial⟩ rfl (by decide) fun k34 cs34 R34=>?_)
 have G34:Grow ρ2 127 (.slice (some ⟨k34,0,none⟩) 1 1) ([(⟨(t:Int),0,0⟩:FNode)]:List FNode) [(k34,.obj (.cells cs34.toArray 127 (0,0)))]:=Bs R34 rfl (by decide)
 refine Ca G34 fun ρ36 l36 r36=>?_
 replace rpb:=At.mono l36 rpb
 replace rpf:=At.mono l36 rpf
 replace hg:=Glob.mono l36 hg
 replace G0:=Grow.mono l36 G0
 replace r2:=At.mono l36 r2
 refine Bj (Asg Asc) ?_
 refine Arv (Gc (σ:=((rm,Res.obj (Obj.map es26 ck26)) :: ((rt,oC #[vt] 114) :: σ))) (gr:=gr) (xs:=tree) (ys:=([(⟨(t:Int),0,0⟩:FNode)]:List FNode)) Tryz.underlying114 Tryz.underlying114 (Ab Tryz.typeInfo127) rfl (Nat.le_of_ble_eq_true rfl) rfl rfl rfl rfl G0 r36 (by simp only [List.length_append,List.length_cons,List.length_nil] at *; omega) fun v35 gr35 G35=>?_)
 refine Bj (Asg ((p_a Arz).trans Asd)) ?_
 refine Cx rfl (Cz (j:=0) (v:=v35) ⟨_,Ab Tryz.typeInfo114,rfl⟩ h11_2 rfl (Grow.single G35) rfl (Nat.le_of_ble_eq_true rfl) ?_)
 refine Asa k32 fun K37 k37=>?_
 refine Dc [0,1,2,3,4,5] (by kernel_rfl) rfl rfl ?_
 refine Cd (i:=0) [o1,o0,o0,o0,o0,o0] rfl (by kernel_rfl) rfl Ash rfl (Ay State.f_left Tryz.underlying201 rfl rfl ty3 (by decide) h11_4 r2) fun v38 r38=>?_
 have ⟨g39a,g39b⟩:=At.rng r38
 refine Bd (i:=1) [o1,o1,o0,o0,o0,o0] rfl (by kernel_rfl) rfl Ash rfl (Bc ty3 rfl r38) ?_
 refine Bg (i:=2) [o1,o1,o1,o0,o0,o0] rfl (by kernel_rfl) rfl Ash rfl (Ah (v:=(iV ((t:Int)))) h11_6) ?_
 refine Bg (i:=3) [o1,o1,o1,o1,o0,o0] rfl (by kernel_rfl) rfl Ash rfl (Md (p:=1) (q:=t) rfl rfl rfl (by omega) (z:=(((1 <<< t):Nat):Int)) (Bo rfl (by omega) (by omega))) ?_
 refine Bg (i:=4) Amh rfl (by kernel_rfl) rfl Ash rfl (Adz (p:=left) (k:=t) hleft ta2 rfl rfl) ?_
 refine Bg (i:=5) Ami rfl (by kernel_rfl) rfl Ash rfl (Cp (v:=(iV ((((left - 1 <<< t):Nat):Int)))) rfl) ?_
 refine Ec rfl ?_
 apply k37
 refine Ai fun K40 k40=>?_
 refine Dc [0,1,2,3,4,5,6,7,8,9] (by kernel_rfl) rfl rfl ?_
 refine Bd (i:=0) zZ7 rfl (by kernel_rfl) rfl Ash rfl (Lb Adr h11_3 rpf) ?_
 refine Cd (i:=1) zZ8 rfl (by kernel_rfl) rfl Ash rfl (Ax Sc h11_1 rpb) fun v42 r42=>?_
 replace r42:=Ir.1 r42
 refine Cd (i:=2) zZ9 rfl (by kernel_rfl) rfl Ash rfl (Ay State.f_sets Tryz.underlying201 rfl rfl Jg (by decide) h11_4 r2) fun v43 r43=>?_
 have ⟨g44a,g44b⟩:=At.rng r43
 refine Bd (i:=3) Aoq rfl (by kernel_rfl) rfl Ash rfl (Bc Jg rfl r43) ?_
 refine Bd (i:=4) Aor rfl (by kernel_rfl) rfl Ash rfl (Ah (v:=(iV ((t:Int)))) h11_6) ?_
 refine Bd (i:=6) [o1,o1,o1,o1,o1,o0,o1,o0,o0,o0] rfl (by kernel_rfl) rfl Ash rfl (Ah (v:=(iV ((((left - 1 <<< t):Nat):Int)))) rfl) ?_
 refine Dj (i:=5) Ajy rfl (by kernel_rfl) rfl rfl (Bm (Pp hg r42 hl (by omega) (by omega)) Tryz.func90 rfl rfl ⟨rfl,rfl,rfl,rfl,trivial⟩ ⟨Ash,?_⟩)
 have r45:Val ρ36 (.agg #[(iV (((Bf (Au l (Av s) ⟨(t:Int),true⟩):Nat):Int))),(iV ((((left - 1 <<< t):Nat):Int)))]) (⟨((Bf (Au l (Av s) ⟨(t:Int),true⟩):Nat):Int),(((left - 1 <<< t):Nat):Int)⟩:State):=State.shut (x:=(⟨((Bf (Au l (Av s) ⟨(t:Int),true⟩):Nat):Int),(((left - 1 <<< t):Nat):Int)⟩:State)) (show I64 (((Bf (Au l (Av s) ⟨(t:Int),true⟩):Nat):Int)) from by constructor <;> omega) (show I64 ((((left - 1 <<< t):Nat):Int)) from by constructor <;> omega)
 refine Bg (i:=7) Ajz rfl (by kernel_rfl) rfl Ash rfl (Dn (ns:=[1,1]) (vs:=[(0,(iV (((Bf (Au l (Av s) ⟨(t:Int),true⟩):Nat):Int)))),(1,(iV ((((left - 1 <<< t):Nat):Int))))]) (zc:=Wr) (cs:=[(iV (((Bf (Au l (Av s) ⟨(t:Int),true⟩):Nat):Int))),(iV ((((left - 1 <<< t):Nat):Int)))]) Tryz.underlying201 Wt rfl ⟨⟨_,Ab Tryz.typeInfo191,rfl⟩,⟨_,Ab Tryz.typeInfo3,rfl⟩,trivial⟩ (EvB.map ⟨⟨rfl,rfl⟩,⟨rfl,rfl⟩,trivial⟩) ((Be (cs:=[(iV (((Bf (Au l (Av s) ⟨(t:Int),true⟩):Nat):Int)))]) rfl rfl (Nat.le_of_ble_eq_true rfl)).trans ((Be (cs:=[(iV ((((left - 1 <<< t):Nat):Int)))]) rfl rfl (Nat.le_of_ble_eq_true rfl)).trans rfl))) ?_
 refine Ej (Asg ((p_c Asd).trans Arz)) id ?_
 refine Ej (Asg Arz) id ?_
 refine Ej (Asg ((p_c Asc).trans Asc)) id ?_
 refine Dj (i:=8) Aka rfl (by kernel_rfl) rfl rfl (Sq (vs:=[(.agg #[(iV (((Bf (Au l (Av s) ⟨(t:Int),true⟩):Nat):Int))),(iV ((((left - 1 <<< t):Nat):Int)))])]) (caps:=[vpb,(.pointer (some ⟨rt,0,none⟩)),vpf]) rfl (ih (left - 1 <<< t) (by omega) (s:=(Bf (Au l (Av s) ⟨(t:Int),true⟩))) (tree:=((tree ++ ([(⟨(t:Int),0,0⟩:FNode)]:List FNode)))) (gr:=gr35) (vt:=v35) hg rpb rpf G35 Er (by omega) (Hd ▸ hda) (by (try simp only [List.length_append,List.length_singleton] at *); omega) MM26) Tryz.func87 rfl rfl ⟨rfl,trivial⟩ fun w46 ρ46 σ46 hc46=>?_)
 obtain ⟨l46,v46,gr46,es46,ck46,hw46,hs46,G46,MM46⟩:=hc46
 rw [Hd] at hw46 G46
 subst hs46 hw46
 replace rpb:=At.mono l46 rpb
 replace rpf:=At.mono l46 rpf
 replace hg:=Glob.mono l46 hg
 replace r2:=At.mono l46 r2
 refine ⟨l46,?_⟩
 have hgl46:=(Ia:_ ≤ (Bp l ((tree ++ ([(⟨(t:Int),0,0⟩:FNode)]:List FNode))) ((Au l (Av s) ⟨(t:Int),true⟩)) ((left - 1 <<< t))).1.length∧(Bp l ((tree ++ ([(⟨(t:Int),0,0⟩:FNode)]:List FNode))) ((Au l (Av s) ⟨(t:Int),true⟩)) ((left - 1 <<< t))).1.length + 1 ≤ _)
 have hgi46:=(Pe:(Bp l ((tree ++ ([(⟨(t:Int),0,0⟩:FNode)]:List FNode))) ((Au l (Av s) ⟨(t:Int),true⟩)) ((left - 1 <<< t))).2 = -1∨(Bp l ((tree ++ ([(⟨(t:Int),0,0⟩:FNode)]:List FNode))) ((Au l (Av s) ⟨(t:Int),true⟩)) ((left - 1 <<< t))).2 = _)
 try simp only [List.length_append,List.length_singleton] at hgl46 hgi46
 refine Bg (i:=9) Akb rfl (by kernel_rfl) rfl l46 rfl (Cp (v:=(iV ((Bp l ((tree ++ ([(⟨(t:Int),0,0⟩:FNode)]:List FNode))) ((Au l (Av s) ⟨(t:Int),true⟩)) ((left - 1 <<< t))).2))) rfl) ?_
 refine Ec rfl ?_
 apply k40
 refine Ai fun K47 k47=>?_
 refine Dc [0,1,2,3,4,5,6,7,8,9] (by kernel_rfl) rfl rfl ?_
 refine Bd (i:=0) zZ7 rfl (by kernel_rfl) rfl Ash rfl (Lb Adr h11_3 rpf) ?_
 refine Cd (i:=1) zZ8 rfl (by kernel_rfl) rfl Ash rfl (Ax Sc h11_1 rpb) fun v49 r49=>?_
 replace r49:=Ir.1 r49
 refine Cd (i:=2) zZ9 rfl (by kernel_rfl) rfl Ash rfl (Ay State.f_sets Tryz.underlying201 rfl rfl Jg (by decide) h11_4 r2) fun v50 r50=>?_
 have ⟨g51a,g51b⟩:=At.rng r50
 refine Bd (i:=3) Aoq rfl (by kernel_rfl) rfl Ash rfl (Bc Jg rfl r50) ?_
 refine Bd (i:=4) Aor rfl (by kernel_rfl) rfl Ash rfl (Ah (v:=(iV ((t:Int)))) h11_6) ?_
 refine Bd (i:=6) [o1,o1,o1,o1,o1,o0,o1,o0,o0,o0] rfl (by kernel_rfl) rfl Ash rfl (Ah (v:=(iV ((((left - 1 <<< t):Nat):Int)))) rfl) ?_
 refine Dj (i:=5) Ajy rfl (by kernel_rfl) rfl rfl (Bm (Pp hg r49 hl (by omega) (by omega)) Tryz.func90 rfl rfl ⟨rfl,rfl,rfl,rfl,trivial⟩ ⟨Ash,?_⟩)
 have r52:Val ρ46 (.agg #[(iV (((Bf (Au l (Av s) ⟨(t:Int),false⟩):Nat):Int))),(iV ((((left - 1 <<< t):Nat):Int)))]) (⟨((Bf (Au l (Av s) ⟨(t:Int),false⟩):Nat):Int),(((left - 1 <<< t):Nat):Int)⟩:State):=State.shut (x:=(⟨((Bf (Au l (Av s) ⟨(t:Int),false⟩):Nat):Int),(((left - 1 <<< t):Nat):Int)⟩:State)) (show I64 (((Bf (Au l (Av s) ⟨(t:Int),false⟩):Nat):Int)) from by constructor <;> omega) (show I64 ((((left - 1 <<< t):Nat):Int)) from by constructor <;> omega)
 refine Bg (i:=7) Ajz rfl (by kernel_rfl) rfl Ash rfl (Dn (ns:=[1,1]) (vs:=[(0,(iV (((Bf (Au l (Av s) ⟨(t:Int),false⟩):Nat):Int)))),(1,(iV ((((left - 1 <<< t):Nat):Int))))]) (zc:=Wr) (cs:=[(iV (((Bf (Au l (Av s) ⟨(t:Int),false⟩):Nat):Int))),(iV ((((left - 1 <<< t):Nat):Int)))]) Tryz.underlying201 Wt rfl ⟨⟨_,Ab Tryz.typeInfo191,rfl⟩,⟨_,Ab Tryz.typeInfo3,rfl⟩,trivial⟩ (EvB.map ⟨⟨rfl,rfl⟩,⟨rfl,rfl⟩,trivial⟩) ((Be (cs:=[(iV (((Bf (Au l (Av s) ⟨(t:Int),false⟩):Nat):Int)))]) rfl rfl (Nat.le_of_ble_eq_true rfl)).trans ((Be (cs:=[(iV ((((left - 1 <<< t):Nat):Int)))]) rfl rfl (Nat.le_of_ble_eq_true rfl)).trans rfl))) ?_
 refine Ej (Asg ((p_a Arz).trans Asd)) id ?_
 refine Ej (Asg ((p_c Asd).trans Arz)) id ?_
 refine Ej (Asg ((p_c Asc).trans Asc)) id ?_
 refine Dj (i:=8) Aka rfl (by kernel_rfl) rfl rfl (Sq (vs:=[(.agg #[(iV (((Bf (Au l (Av s) ⟨(t:Int),false⟩):Nat):Int))),(iV ((((left - 1 <<< t):Nat):Int)))])]) (caps:=[vpb,(.pointer (some ⟨rt,0,none⟩)),vpf]) rfl (ih (left - 1 <<< t) (by omega) (s:=(Bf (Au l (Av s) ⟨(t:Int),false⟩))) (tree:=((Bp l ((tree ++ ([(⟨(t:Int),0,0⟩:FNode)]:List FNode))) ((Au l (Av s) ⟨(t:Int),true⟩)) ((left - 1 <<< t))).1)) (gr:=gr46) (vt:=v46) hg rpb rpf G46 Er (by omega) (Hd ▸ hdb) (by (try simp only [List.length_append,List.length_singleton] at *); omega) MM46) Tryz.func87 rfl rfl ⟨rfl,trivial⟩ fun w53 ρ53 σ53 hc53=>?_)
 obtain ⟨l53,v53,gr53,es53,ck53,hw53,hs53,G53,MM53⟩:=hc53
 rw [Hd] at hw53 G53
 subst hs53 hw53
 refine ⟨l53,?_⟩
 have hgl53:=(Ia:_ ≤ (Bp l ((Bp l ((tree ++ ([(⟨(t:Int),0,0⟩:FNode)]:List FNode))) ((Au l (Av s) ⟨(t:Int),true⟩)) ((left - 1 <<< t))).1) ((Au l (Av s) ⟨(t:Int),false⟩)) ((left - 1 <<< t))).1.length∧(Bp l ((Bp l ((tree ++ ([(⟨(t:Int),0,0⟩:FNode)]:List FNode))) ((Au l (Av s) ⟨(t:Int),true⟩)) ((left - 1 <<< t))).1) ((Au l (Av s) ⟨(t:Int),false⟩)) ((left - 1 <<< t))).1.length + 1 ≤ _)
 have hgi53:=(Pe:(Bp l ((Bp l ((tree ++ ([(⟨(t:Int),0,0⟩:FNode)]:List FNode))) ((Au l (Av s) ⟨(t:Int),true⟩)) ((left - 1 <<< t))).1) ((Au l (Av s) ⟨(t:Int),false⟩)) ((left - 1 <<< t))).2 = -1∨(Bp l ((Bp l ((tree ++ ([(⟨(t:Int),0,0⟩:FNode)]:List FNode))) ((Au l (Av s) ⟨(t:Int),true⟩)) ((left - 1 <<< t))).1) ((Au l (Av s) ⟨(t:Int),false⟩)) ((left - 1 <<< t))).2 = _)
 try simp only [List.length_append,List.length_singleton] at hgl53 hgi53
 refine Bg (i:=9) Akb rfl (by kernel_rfl) rfl l53 rfl (Cp (v:=(iV ((Bp l ((Bp l ((tree ++ ([(⟨(t:Int),0,0⟩:FNode)]:List FNode))) ((Au l (Av s) ⟨(t:Int),true⟩)) ((left - 1 <<< t))).1) ((Au l (Av s) ⟨(t:Int),false⟩)) ((left - 1 <<< t))).2))) rfl) ?_
 refine Ec rfl ?_
 apply k47
 refine Ai fun K54 k54=>?_
 refine Dc [0,1,2,3,4,5,6,7,8,9,10,11] (by kernel_rfl) rfl rfl ?_
 refine Bd (i:=1) [o0,o1,o0,o0,o0,o0,o0,o0,o0,o0,o0,o0] rfl (by kernel_rfl) rfl Ash rfl (Ah (v:=(iV (((tree.length:Nat):Int)))) rfl) ?_
 refine Bd (i:=3) [o0,o1,o0,o1,o0,o0,o0,o0,o0,o0,o0,o0] rfl (by kernel_rfl) rfl Ash rfl (Ah (v:=(iV (((tree.length:Nat):Int)))) rfl) ?_
 refine Bd (i:=4) [o0,o1,o0,o1,o1,o0,o0,o0,o0,o0,o0,o0] rfl (by kernel_rfl) rfl Ash rfl (Ah (v:=(iV ((Bp l ((tree ++ ([(⟨(t:Int),0,0⟩:FNode)]:List FNode))) ((Au l (Av s) ⟨(t:Int),true⟩)) ((left - 1 <<< t))).2))) rfl) ?_
 refine Bd (i:=5) [o0,o1,o0,o1,o1,o1,o0,o0,o0,o0,o0,o0] rfl (by kernel_rfl) rfl Ash rfl (Ah (v:=(iV ((Bp l ((Bp l ((tree ++ ([(⟨(t:Int),0,0⟩:FNode)]:List FNode))) ((Au l (Av s) ⟨(t:Int),true⟩)) ((left - 1 <<< t))).1) ((Au l (Av s) ⟨(t:Int),false⟩)) ((left - 1 <<< t))).2))) rfl) ?_
 refine Acq (i:=0) (j:=2) [o1,o1,o0,o1,o1,o1,o0,o0,o0,o0,o0,o0] [o0,o1,o1,o1,o1,o1,o0,o0,o0,o0,o0,o0] rfl rfl (by kernel_rfl) rfl rfl rfl rfl ?_ ?_
 ·refine Gu (v:=v53) ⟨_,Tryz.underlying114,rfl⟩ h11_2 (List.mem_append_right _ (List.mem_cons_self ..)) rfl ⟨Ash,?_⟩
  refine Bd (i:=6) [o1,o1,o0,o1,o1,o1,o1,o0,o0,o0,o0,o0] rfl (by kernel_rfl) rfl Ash rfl (Nw tree.length Tryz.underlying114 ty94.info rfl G53 (q:=((tree.length:Nat):Int)) rfl rfl (by (try simp only [List.length_append,List.length_cons,List.length_nil,List.length_set] at *); omega) rfl) ?_
  refine Bd (i:=7) [o1,o1,o0,o1,o1,o1,o1,o1,o0,o0,o0,o0] rfl (by kernel_rfl) rfl Ash rfl (Cb (off':=tree.length * Dat.k FNode + 1) Tryz.underlying127 rfl rfl ⟨_,Ab Tryz.typeInfo3,rfl⟩ (by decide) rfl rfl) ?_
  refine Amw (i:=2) (j:=8) [o1,o1,o1,o1,o1,o1,o1,o1,o0,o0,o0,o0] [o1,o1,o0,o1,o1,o1,o1,o1,o1,o0,o0,o0] rfl rfl (by kernel_rfl) rfl rfl rfl rfl ?_ ?_
  ·refine Gu (v:=v53) ⟨_,Tryz.underlying114,rfl⟩ h11_2 (List.mem_append_right _ (List.mem_cons_self ..)) rfl ⟨Ash,?_⟩
   have hz56:((Bp l ((Bp l ((tree ++ ([(⟨(t:Int),0,0⟩:FNode)]:List FNode))) ((Au l (Av s) ⟨(t:Int),true⟩)) ((left - 1 <<< t))).1) ((Au l (Av s) ⟨(t:Int),false⟩)) ((left - 1 <<< t))).1)[tree.length]? = some (⟨(t:Int),0,0⟩:FNode):=by rw [Hz (Nat.lt_of_lt_of_le (by simp) (Ia).1),Hz (by simp)]; simp
   refine Fg (i:=8) Aoo rfl (by kernel_rfl) rfl rfl (Jm (σ:=((rt,oC #[v53] 114) :: ((rm,Res.obj (Obj.map es53 ck53)) :: σ))) (gr:=gr53) (i:=tree.length) (o:=1) (v:=v53) (w:=(iV ((Bp l ((tree ++ ([(⟨(t:Int),0,0⟩:FNode)]:List FNode))) ((Au l (Av s) ⟨(t:Int),true⟩)) ((left - 1 <<< t))).2))) (z:=(⟨(t:Int),0,0⟩:FNode)) (a:=(⟨(t:Int),(Bp l ((tree ++ ([(⟨(t:Int),0,0⟩:FNode)]:List FNode))) ((Au l (Av s) ⟨(t:Int),true⟩)) ((left - 1 <<< t))).2,0⟩:FNode)) ⟨_,Ab Tryz.typeInfo3,rfl⟩ rfl rfl (by decide) rfl rfl G53 hz56 (fun cs h=>Pb (z:=(⟨(t:Int),0,0⟩:FNode)) (by constructor <;> omega) cs h) fun gr55 G55=>⟨Ash,?_⟩)
   refine Bg (i:=9) Amg rfl (by kernel_rfl) rfl Ash rfl (Nw tree.length Tryz.underlying114 ty94.info rfl G55 (q:=((tree.length:Nat):Int)) rfl rfl (by (try simp only [List.length_append,List.length_cons,List.length_nil,List.length_set] at *); omega) rfl) ?_
   refine Bg (i:=10) zZ0 rfl (by kernel_rfl) rfl Ash rfl (Cb (off':=tree.length * Dat.k FNode + 2) Tryz.underlying127 rfl rfl ⟨_,Ab Tryz.typeInfo3,rfl⟩ (by decide) rfl rfl) ?_
   refine Fg (i:=11) zZ1 rfl (by kernel_rfl) rfl rfl (Jm (σ:=((rt,oC #[v53] 114) :: ((rm,Res.obj (Obj.map es53 ck53)) :: σ))) (gr:=gr55) (i:=tree.length) (o:=2) (v:=v53) (w:=(iV ((Bp l ((Bp l ((tree ++ ([(⟨(t:Int),0,0⟩:FNode)]:List FNode))) ((Au l (Av s) ⟨(t:Int),true⟩)) ((left - 1 <<< t))).1) ((Au l (Av s) ⟨(t:Int),false⟩)) ((left - 1 <<< t))).2))) (z:=(⟨(t:Int),(Bp l ((tree ++ ([(⟨(t:Int),0,0⟩:FNode)]:List FNode))) ((Au l (Av s) ⟨(t:Int),true⟩)) ((left - 1 <<< t))).2,0⟩:FNode)) (a:=(⟨(t:Int),(Bp l ((tree ++ ([(⟨(t:Int),0,0⟩:FNode)]:List FNode))) ((Au l (Av s) ⟨(t:Int),true⟩)) ((left - 1 <<< t))).2,(Bp l ((Bp l ((tree ++ ([(⟨(t:Int),0,0⟩:FNode)]:List FNode))) ((Au l (Av s) ⟨(t:Int),true⟩)) ((left - 1 <<< t))).1) ((Au l (Av s) ⟨(t:Int),false⟩)) ((left - 1 <<< t))).2⟩:FNode)) ⟨_,Ab Tryz.typeInfo3,rfl⟩ rfl rfl (by decide) rfl rfl G55 (List.getElem?_set_self (by omega)) (fun cs h=>Pc (z:=(⟨(t:Int),(Bp l ((tree ++ ([(⟨(t:Int),0,0⟩:FNode)]:List FNode))) ((Au l (Av s) ⟨(t:Int),true⟩)) ((left - 1 <<< t))).2,0⟩:FNode)) (by constructor <;> omega) cs h) fun gr57 G57=>⟨Ash,?_⟩)
   refine Ec rfl ?_
   apply k54
   refine w_q rfl rfl fun K59 k59=>?_
   refine l_v (Ah (v:=(iV (((tree.length:Nat):Int)))) rfl) ?_
   refine l_v (Cp (v:=(iV (((tree.length:Nat):Int)))) rfl) ?_
   refine l_k k59 ?_
   refine Aq ?_
   refine hret _ _ _ ?_
   refine ⟨(Asi (Asi (Asi l2 l36) l46) l53),v53,gr57,es53,ck53,Eq.trans (b:=(iV (((tree.length:Nat):Int)))) rfl ?_,rfl,Fy ?_ G57,MM53⟩
   ·rw [Ic hleft hd hset]
   ·rw [Ic hleft hd hset,← htt,List.set_set]; rfl
  ·have hz61:((Bp l ((Bp l ((tree ++ ([(⟨(t:Int),0,0⟩:FNode)]:List FNode))) ((Au l (Av s) ⟨(t:Int),true⟩)) ((left - 1 <<< t))).1) ((Au l (Av s) ⟨(t:Int),false⟩)) ((left - 1 <<< t))).1)[tree.length]? = some (⟨(t:Int),0,0⟩:FNode):=by rw [Hz (Nat.lt_of_lt_of_le (by simp) (Ia).1),Hz (by simp)]; simp
   refine Jm (σ:=((rt,oC #[v53] 114) :: ((rm,Res.obj (Obj.map es53 ck53)) :: σ))) (gr:=gr53) (i:=tree.length) (o:=1) (v:=v53) (w:=(iV ((Bp l ((tree ++ ([(⟨(t:Int),0,0⟩:FNode)]:List FNode))) ((Au l (Av s) ⟨(t:Int),true⟩)) ((left - 1 <<< t))).2))) (z:=(⟨(t:Int),0,0⟩:FNode)) (a:=(⟨(t:Int),(Bp l ((tree ++ ([(⟨(t:Int),0,0⟩:FNode)]:List FNode))) ((Au l (Av s) ⟨(t:Int),true⟩)) ((left - 1 <<< t))).2,0⟩:FNode)) ⟨_,Ab Tryz.typeInfo3,rfl⟩ rfl rfl (by decide) rfl rfl G53 hz61 (fun cs h=>Pb (z:=(⟨(t:Int),0,0⟩:FNode)) (by constructor <;> omega) cs h) fun gr60 G60=>⟨Ash,?_⟩
   refine Dj (i:=2) Aoo rfl (by kernel_rfl) rfl rfl (Gu (v:=v53) ⟨_,Tryz.underlying114,rfl⟩ h11_2 (List.mem_append_right _ (List.mem_cons_self ..)) rfl ⟨Ash,?_⟩)
   refine Bg (i:=9) Amg rfl (by kernel_rfl) rfl Ash rfl (Nw tree.length Tryz.underlying114 ty94.info rfl G60 (q:=((tree.length:Nat):Int)) rfl rfl (by (try simp only [List.length_append,List.length_cons,List.length_nil,List.length_set] at *); omega) rfl) ?_
   refine Bg (i:=10) zZ0 rfl (by kernel_rfl) rfl Ash rfl (Cb (off':=tree.length * Dat.k FNode + 2) Tryz.underlying127 rfl rfl ⟨_,Ab Tryz.typeInfo3,rfl⟩ (by decide) rfl rfl) ?_
   refine Fg (i:=11) zZ1 rfl (by kernel_rfl) rfl rfl (Jm (σ:=((rt,oC #[v53] 114) :: ((rm,Res.obj (Obj.map es53 ck53)) :: σ))) (gr:=gr60) (i:=tree.length) (o:=2) (v:=v53) (w:=(iV ((Bp l ((Bp l ((tree ++ ([(⟨(t:Int),0,0⟩:FNode)]:List FNode))) ((Au l (Av s) ⟨(t:Int),true⟩)) ((left - 1 <<< t))).1) ((Au l (Av s) ⟨(t:Int),false⟩)) ((left - 1 <<< t))).2))) (z:=(⟨(t:Int),(Bp l ((tree ++ ([(⟨(t:Int),0,0⟩:FNode)]:List FNode))) ((Au l (Av s) ⟨(t:Int),true⟩)) ((left - 1 <<< t))).2,0⟩:FNode)) (a:=(⟨(t:Int),(Bp l ((tree ++ ([(⟨(t:Int),0,0⟩:FNode)]:List FNode))) ((Au l (Av s) ⟨(t:Int),true⟩)) ((left - 1 <<< t))).2,(Bp l ((Bp l ((tree ++ ([(⟨(t:Int),0,0⟩:FNode)]:List FNode))) ((Au l (Av s) ⟨(t:Int),true⟩)) ((left - 1 <<< t))).1) ((Au l (Av s) ⟨(t:Int),false⟩)) ((left - 1 <<< t))).2⟩:FNode)) ⟨_,Ab Tryz.typeInfo3,rfl⟩ rfl rfl (by decide) rfl rfl G60 (List.getElem?_set_self (by omega)) (fun cs h=>Pc (z:=(⟨(t:Int),(Bp l ((tree ++ ([(⟨(t:Int),0,0⟩:FNode)]:List FNode))) ((Au l (Av s) ⟨(t:Int),true⟩)) ((left - 1 <<< t))).2,0⟩:FNode)) (by constructor <;> omega) cs h) fun gr62 G62=>⟨Ash,?_⟩)
   refine Ec rfl ?_
   apply k54
   refine w_q rfl rfl fun K64 k64=>?_
   refine l_v (Ah (v:=(iV (((tree.length:Nat):Int)))) rfl) ?_
   refine l_v (Cp (v:=(iV (((tree.length:Nat):Int)))) rfl) ?_
   refine l_k k64 ?_
   refine Aq ?_
   refine hret _ _ _ ?_
   refine ⟨(Asi (Asi (Asi l2 l36) l46) l53),v53,gr62,es53,ck53,Eq.trans (b:=(iV (((tree.length:Nat):Int)))) rfl ?_,rfl,Fy ?_ G62,MM53⟩
   ·rw [Ic hleft hd hset]
   ·rw [Ic hleft hd hset,← htt,List.set_set]; rfl
 ·refine Gu (v:=v53) ⟨_,Tryz.underlying114,rfl⟩ h11_2 (List.mem_append_right _ (List.mem_cons_self ..)) rfl ⟨Ash,?_⟩
  refine Dj (i:=0) [o1,o1,o1,o1,o1,o1,o0,o0,o0,o0,o0,o0] rfl (by kernel_rfl) rfl rfl (Gu (v:=v53) ⟨_,Tryz.underlying114,rfl⟩ h11_2 (List.mem_append_right _ (List.mem_cons_self ..)) rfl ⟨Ash,?_⟩)
  refine Bg (i:=6) [o1,o1,o1,o1,o1,o1,o1,o0,o0,o0,o0,o0] rfl (by kernel_rfl) rfl Ash rfl (Nw tree.length Tryz.underlying114 ty94.info rfl G53 (q:=((tree.length:Nat):Int)) rfl rfl (by (try simp only [List.length_append,List.length_cons,List.length_nil,List.length_set] at *); omega) rfl) ?_
  refine Bg (i:=7) [o1,o1,o1,o1,o1,o1,o1,o1,o0,o0,o0,o0] rfl (by kernel_rfl) rfl Ash rfl (Cb (off':=tree.length * Dat.k FNode + 1) Tryz.underlying127 rfl rfl ⟨_,Ab Tryz.typeInfo3,rfl⟩ (by decide) rfl rfl) ?_
  have hz66:((Bp l ((Bp l ((tree ++ ([(⟨(t:Int),0,0⟩:FNode)]:List FNode))) ((Au l (Av s) ⟨(t:Int),true⟩)) ((left - 1 <<< t))).1) ((Au l (Av s) ⟨(t:Int),false⟩)) ((left - 1 <<< t))).1)[tree.length]? = some (⟨(t:Int),0,0⟩:FNode):=by rw [Hz (Nat.lt_of_lt_of_le (by simp) (Ia).1),Hz (by simp)]; simp
  refine Fg (i:=8) Aoo rfl (by kernel_rfl) rfl rfl (Jm (σ:=((rt,oC #[v53] 114) :: ((rm,Res.obj (Obj.map es53 ck53)) :: σ))) (gr:=gr53) (i:=tree.length) (o:=1) (v:=v53) (w:=(iV ((Bp l ((tree ++ ([(⟨(t:Int),0,0⟩:FNode)]:List FNode))) ((Au l (Av s) ⟨(t:Int),true⟩)) ((left - 1 <<< t))).2))) (z:=(⟨(t:Int),0,0⟩:FNode)) (a:=(⟨(t:Int),(Bp l ((tree ++ ([(⟨(t:Int),0,0⟩:FNode)]:List FNode))) ((Au l (Av s) ⟨(t:Int),true⟩)) ((left - 1 <<< t))).2,0⟩:FNode)) ⟨_,Ab Tryz.typeInfo3,rfl⟩ rfl rfl (by decide) rfl rfl G53 hz66 (fun cs h=>Pb (z:=(⟨(t:Int),0,0⟩:FNode)) (by constructor <;> omega) cs h) fun gr65 G65=>⟨Ash,?_⟩)
  refine Bg (i:=9) Amg rfl (by kernel_rfl) rfl Ash rfl (Nw tree.length Tryz.underlying114 ty94.info rfl G65 (q:=((tree.length:Nat):Int)) rfl rfl (by (try simp only [List.length_append,List.length_cons,List.length_nil,List.length_set] at *); omega) rfl) ?_
  refine Bg (i:=10) zZ0 rfl (by kernel_rfl) rfl Ash rfl (Cb (off':=tree.length * Dat.k FNode + 2) Tryz.underlying127 rfl rfl ⟨_,Ab Tryz.typeInfo3,rfl⟩ (by decide) rfl rfl) ?_
  refine Fg (i:=11) zZ1 rfl (by kernel_rfl) rfl rfl (Jm (σ:=((rt,oC #[v53] 114) :: ((rm,Res.obj (Obj.map es53 ck53)) :: σ))) (gr:=gr65) (i:=tree.length) (o:=2) (v:=v53) (w:=(iV ((Bp l ((Bp l ((tree ++ ([(⟨(t:Int),0,0⟩:FNode)]:List FNode))) ((Au l (Av s) ⟨(t:Int),true⟩)) ((left - 1 <<< t))).1) ((Au l (Av s) ⟨(t:Int),false⟩)) ((left - 1 <<< t))).2))) (z:=(⟨(t:Int),(Bp l ((tree ++ ([(⟨(t:Int),0,0⟩:FNode)]:List FNode))) ((Au l (Av s) ⟨(t:Int),true⟩)) ((left - 1 <<< t))).2,0⟩:FNode)) (a:=(⟨(t:Int),(Bp l ((tree ++ ([(⟨(t:Int),0,0⟩:FNode)]:List FNode))) ((Au l (Av s) ⟨(t:Int),true⟩)) ((left - 1 <<< t))).2,(Bp l ((Bp l ((tree ++ ([(⟨(t:Int),0,0⟩:FNode)]:List FNode))) ((Au l (Av s) ⟨(t:Int),true⟩)) ((left - 1 <<< t))).1) ((Au l (Av s) ⟨(t:Int),false⟩)) ((left - 1 <<< t))).2⟩:FNode)) ⟨_,Ab Tryz.typeInfo3,rfl⟩ rfl rfl (by decide) rfl rfl G65 (List.getElem?_set_self (by omega)) (fun cs h=>Pc (z:=(⟨(t:Int),(Bp l ((tree ++ ([(⟨(t:Int),0,0⟩:FNode)]:List FNode))) ((Au l (Av s) ⟨(t:Int),true⟩)) ((left - 1 <<< t))).2,0⟩:FNode)) (by constructor <;> omega) cs h) fun gr67 G67=>⟨Ash,?_⟩)
  refine Ec rfl ?_
  apply k54
  refine w_q rfl rfl fun K69 k69=>?_
  refine l_v (Ah (v:=(iV (((tree.length:Nat):Int)))) rfl) ?_
  refine l_v (Cp (v:=(iV (((tree.length:Nat):Int)))) rfl) ?_
  refine l_k k69 ?_
  refine Aq ?_
  refine hret _ _ _ ?_
  refine ⟨(Asi (Asi (Asi l2 l36) l46) l53),v53,gr67,es53,ck53,Eq.trans (b:=(iV (((tree.length:Nat):Int)))) rfl ?_,rfl,Fy ?_ G67,MM53⟩
  ·rw [Ic hleft hd hset]
  ·rw [Ic hleft hd hset,← htt,List.set_set]; rfl
end Go.Proofs.YtphgjjmlnkgghaaGreatDoor

namespace Go.Proofs.YtphgjjmlnkgghaaGreatDoor
set_option maxHeartbeats 1000000
open Go
set_option maxHeartbeats 1000000 in
set_option maxRecDepth 100000 in
theorem Amz {mn:Bool} {X:Frame→List Frame→Ro→Own→Cy→Prop} {ρ:Ro} {σ:Own} {l:Lab} {vl vr:Value} {rs:List Found} (hg:Glob ρ) (rl:Val ρ vl l) (rr:Val ρ vr rs):CallsH (CX mn X) 37 #[vl,vr] ρ σ (fun w ρ' σ'=>Ro.le ρ ρ'∧σ' = σ∧∃ v0,w = (.tuple #[v0,(iV (Zr l rs)),(.bool (Zq l rs)),(iV (Cw l rs))])∧Val ρ' v0 (Zs l rs:List FNode)):=by
 refine Lt (n:=40) (args:=[vl,vr]) [.cell 4 114,.tmp 5,.tmp 6,.tmp 7] Tryz.func37 rfl rfl rfl rfl fun Q hret hnor=>?_
 refine w_q rfl rfl fun K1 k1=>?_
 refine Arv (Eb (v:=vl) rfl fun k2=>?_)
 refine Bb (a:=l) rl fun ρ2 l2 r2=>?_
 replace rr:=Asj l2 rr
 replace hg:=Glob.mono l2 hg
 refine Arv (Ct Aru fun k3=>?_)
 refine l_v (Cp (v:=(iV (0))) rfl) ?_
 refine l_v (Cp (v:=(.bool (false))) rfl) ?_
 refine l_v (Cp (v:=(iV (0))) rfl) ?_
 refine Arx rfl rfl k1 fun K4 k4=>?_
 refine Arw (Ax Zu rfl r2) fun v5 r5=>?_
 refine l_v (Ah (v:=vr) rfl) ?_
 refine Arv (Cm (vs:=[v5,vr]) (Acs hg r5 rr) Tryz.func81 rfl rfl ⟨rfl,rfl,trivial⟩ fun w6 ρ6 σ6 hc6=>?_)
 obtain ⟨l6,hc6⟩:=hc6
 replace hg:=Glob.mono l6 hg
 replace r2:=At.mono l6 r2
 rcases hc6 with ⟨hC6,rfl,rfl⟩ | ⟨hC6,bp6,rm6,rfl,rfl,rb6⟩
 ·refine l_v (Ah (v:=(.tuple #[(.pointer none),(iV (0)),(iV ((Cw l rs)))])) rfl) ?_
  refine l_v (Bk (vs:=#[(.pointer none),(iV (0)),(iV ((Cw l rs)))]) rfl (v:=(.pointer none)) rfl) ?_
  refine l_v (Bk (vs:=#[(.pointer none),(iV (0)),(iV ((Cw l rs)))]) rfl (v:=(iV (0))) rfl) ?_
  refine l_v (Bk (vs:=#[(.pointer none),(iV (0)),(iV ((Cw l rs)))]) rfl (v:=(iV ((Cw l rs)))) rfl) ?_
  refine Arv (Ct Ams fun k7=>?_)
  refine Cx rfl (Cz (j:=0) (v:=(.pointer none)) (c:=Amr) ⟨_,Ab Tryz.typeInfo190,rfl⟩ rfl rfl rfl rfl (Nat.le_of_ble_eq_true rfl) ?_)
  refine l_v (Cp (v:=(iV (0))) rfl) ?_
  refine l_v (Cp (v:=(iV ((Cw l rs)))) rfl) ?_
  refine Ary rfl rfl k4 fun K8 K9 k8 k9=>?_
  refine l_v (Ah (v:=(iV ((Cw l rs)))) rfl) ?_
  refine l_v (Dg rfl rfl) ?_
  refine l_k k9 ?_
  refine Co rfl (Amx hC6) ?_
  refine w_q rfl rfl fun K10 k10=>?_
  refine l_v (Ah (v:=(iV ((Cw l rs)))) rfl) ?_
  refine Cx rfl (Cz (j:=1) (v:=(.slice none 0 0)) ⟨_,Ab Tryz.typeInfo114,rfl⟩ rfl rfl rfl rfl (Nat.le_of_ble_eq_true rfl) ?_)
  refine l_v (Cp (v:=(iV (0))) rfl) ?_
  refine l_v (Cp (v:=(.bool (false))) rfl) ?_
  refine l_v (Cp (v:=(iV ((Cw l rs)))) rfl) ?_
  refine l_k k10 ?_
  refine Aj Ghost.drop ?_
  refine Aq ?_
  refine hret _ _ _ _ _ [(.slice none 0 0),(iV (0)),(.bool (false)),(iV ((Cw l rs)))] ⟨(Rj ⟨_,Tryz.underlying114,rfl⟩ rfl (i:=0) rfl rfl),rfl,rfl,rfl,trivial⟩ Ghost.drop ?_
  refine ⟨(Asi l2 l6),rfl,(.slice none 0 0),Eq.trans (b:=(.tuple #[(.slice none 0 0),(iV (0)),(.bool (false)),(iV ((Cw l rs)))])) rfl ?_,Val.cast ?_ Gx⟩
  ·rw [Zr,Zq,if_neg hC6,if_neg hC6]
  ·rw [Zs,if_neg hC6]
 obtain ⟨hl,hrs,hr8⟩:=(show Gh l = 0∧ResOk l rs∧rs.length ≤ 8 from Abo (Yf hC6))
 have ok:=Ll hl
 have hk4:=ok.n4
 have hm16:=Jw ok (rs:=rs)
 have hnt:=ok.ntests
 have hsh:=Alu hnt
 have hl31:1 <<< l.tests.length - 1 < 32:=by omega
 have hle:=Mi (l:=l) (sets:=Ba l rs) hl31
 refine l_v (Ah (v:=(.tuple #[bp6,(iV ((((Bf (Ba l rs)):Nat):Int))),(iV (0))])) rfl) ?_
 refine l_v (Bk (vs:=#[bp6,(iV ((((Bf (Ba l rs)):Nat):Int))),(iV (0))]) rfl (v:=bp6) rfl) ?_
 refine l_v (Bk (vs:=#[bp6,(iV ((((Bf (Ba l rs)):Nat):Int))),(iV (0))]) rfl (v:=(iV ((((Bf (Ba l rs)):Nat):Int)))) rfl) ?_
 refine l_v (Bk (vs:=#[bp6,(iV ((((Bf (Ba l rs)):Nat):Int))),(iV (0))]) rfl (v:=(iV (0))) rfl) ?_
 refine Arv (Ct Ams fun k11=>?_)
 refine Cx rfl (Dv (v:=bp6) (a:=(Ptr.mk ((⟨l.tests.map Dr,((Bf (Hr l):Nat):Int),⟨rm6⟩⟩:Bench)))) (c:=Amr) Sc rfl rfl (Ir.2 rb6) rfl ?_)
 refine Bb (a:=(Ptr.mk ((⟨l.tests.map Dr,((Bf (Hr l):Nat):Int),⟨rm6⟩⟩:Bench)))) (Ir.2 rb6) fun ρ12 l12 r12=>?_
 replace hg:=Glob.mono l12 hg
 replace r2:=At.mono l12 r2
 refine l_v (Cp (v:=(iV ((((Bf (Ba l rs)):Nat):Int)))) rfl) ?_
 refine l_v (Cp (v:=(iV (0))) rfl) ?_
 refine Ary rfl rfl k4 fun K13 K14 k13 k14=>?_
 refine l_v (Ah (v:=(iV (0))) rfl) ?_
 refine l_v (Dg rfl rfl) ?_
 refine l_k k14 ?_
 refine Cg rfl rfl ?_
 refine Al ?_
 apply k13
 refine w_q rfl rfl fun K15 k15=>?_
 refine l_v (Ah (v:=(iV ((((Bf (Ba l rs)):Nat):Int)))) rfl) ?_
 refine Arw (Ay Lab.f_tests Tryz.underlying105 rfl rfl Vi (by decide) rfl r2) fun v16 r16=>?_
 refine Arw (Ax Vi rfl r16) fun v17 r17=>?_
 have g18:=Val.len r17
 refine l_v (Ci (el:=189) Tryz.underlying103 rfl r17) ?_
 refine l_v (Md (p:=1) (q:=l.tests.length) rfl rfl rfl (by omega) (z:=(((1 <<< l.tests.length):Nat):Int)) (Bo rfl (by omega) (by omega))) ?_
 refine l_v (Ou rfl rfl (z:=((((1 <<< l.tests.length) - 1):Nat):Int)) (Bo (by omega) (by omega) (by omega))) ?_
 have r19:Val ρ12 (.agg #[(iV ((((Bf (Ba l rs)):Nat):Int))),(iV (((((1 <<< l.tests.length) - 1):Nat):Int)))]) (⟨(((Bf (Ba l rs)):Nat):Int),((((1 <<< l.tests.length) - 1):Nat):Int)⟩:State):=State.shut (x:=(⟨(((Bf (Ba l rs)):Nat):Int),((((1 <<< l.tests.length) - 1):Nat):Int)⟩:State)) (show I64 ((((Bf (Ba l rs)):Nat):Int)) from by constructor <;> omega) (show I64 (((((1 <<< l.tests.length) - 1):Nat):Int)) from by constructor <;> omega)
 refine l_v (Dn (ns:=[1,1]) (vs:=[(0,(iV ((((Bf (Ba l rs)):Nat):Int)))),(1,(iV (((((1 <<< l.tests.length) - 1):Nat):Int))))]) (zc:=Wr) (cs:=[(iV ((((Bf (Ba l rs)):Nat):Int))),(iV (((((1 <<< l.tests.length) - 1):Nat):Int)))]) Tryz.underlying201 Wt rfl ⟨⟨_,Ab Tryz.typeInfo191,rfl⟩,⟨_,Ab Tryz.typeInfo3,rfl⟩,trivial⟩ (EvB.map ⟨⟨rfl,rfl⟩,⟨rfl,rfl⟩,trivial⟩) ((Be (cs:=[(iV ((((Bf (Ba l rs)):Nat):Int)))]) rfl rfl (Nat.le_of_ble_eq_true rfl)).trans ((Be (cs:=[(iV (((((1 <<< l.tests.length) - 1):Nat):Int)))]) rfl rfl (Nat.le_of_ble_eq_true rfl)).trans rfl))) ?_
 refine Arv (Ct Wt fun k20=>?_)
 refine Cx rfl (Dv (v:=(.agg #[(iV ((((Bf (Ba l rs)):Nat):Int))),(iV (((((1 <<< l.tests.length) - 1):Nat):Int)))])) (a:=(⟨(((Bf (Ba l rs)):Nat):Int),((((1 <<< l.tests.length) - 1):Nat):Int)⟩:State)) (c:=Wr) Oq rfl rfl r19 rfl ?_)
 refine Bb (a:=(⟨(((Bf (Ba l rs)):Nat):Int),((((1 <<< l.tests.length) - 1):Nat):Int)⟩:State)) r19 fun ρ21 l21 r21=>?_
 replace hg:=Glob.mono l21 hg
 replace r12:=At.mono l21 r12
 refine Arx rfl rfl k15 fun K22 k22=>?_
 refine Arw (Ax Sc rfl r12) fun v23 r23=>?_
 replace r23:=Ir.1 r23
 refine Arw (Ax Oq rfl r21) fun v24 r24=>?_
 obtain ⟨e25_,⟨i25_1a,i25_1b⟩,⟨i25_2a,i25_2b⟩⟩:=State.open_ r24
 have e25_c:v24.cells = [(iV ((((Bf (Ba l rs)):Nat):Int))),(iV (((((1 <<< l.tests.length) - 1):Nat):Int)))].toArray:=by rw [e25_]; rfl
 refine Arv (Cm (vs:=[v23,(.agg #[(iV ((((Bf (Ba l rs)):Nat):Int))),(iV (((((1 <<< l.tests.length) - 1):Nat):Int)))])]) (Tc hg r23 hl hm16 (by omega) Aii) Tryz.func86 rfl rfl ⟨rfl,(rfl.trans e25_),trivial⟩ fun w26 ρ26 σ26 hc26=>?_)
 obtain ⟨hr26,es26,ck26,hw26,hs26,MM26⟩:=hc26
 replace hr26:=hr26.symm; subst hr26; subst hs26
 rw [Fp ok] at hw26
 subst hw26
 refine l_v (Cp (v:=(iV ((Dp (dep l (Ba l rs) (1 <<< l.tests.length - 1)))))) rfl) ?_
 refine Ary rfl rfl k22 fun K27 K28 k27 k28=>?_
 refine l_v (Ah (v:=(iV ((Dp (dep l (Ba l rs) (1 <<< l.tests.length - 1)))))) rfl) ?_
 refine l_v (Uy rfl rfl) ?_
 refine l_k k28 ?_
 refine As (t:=decide ((Dp (dep l (Ba l rs) (1 <<< l.tests.length - 1))) ≥ 1048576)) rfl (fun b29=>?_) (fun b29=>?_)
 ·have q29:=of_decide_eq_true b29
  refine w_q rfl rfl fun K30 k30=>?_
  refine Cx rfl (Cz (j:=1) (v:=(.slice none 0 0)) ⟨_,Ab Tryz.typeInfo114,rfl⟩ rfl rfl rfl rfl (Nat.le_of_ble_eq_true rfl) ?_)
  refine l_v (Cp (v:=(iV (0))) rfl) ?_
  refine l_v (Cp (v:=(.bool (false))) rfl) ?_
  refine l_v (Cp (v:=(iV (0))) rfl) ?_
  refine l_k k30 ?_
  refine Aj Ghost.drop ?_
  refine Aq ?_
  refine hret _ _ _ _ _ [(.slice none 0 0),(iV (0)),(.bool (false)),(iV (0))] ⟨(Rj ⟨_,Tryz.underlying114,rfl⟩ rfl (i:=0) rfl rfl),rfl,rfl,rfl,trivial⟩ Ghost.drop ?_
  refine ⟨(Asi (Asi (Asi l2 l6) l12) l21),rfl,(.slice none 0 0),Eq.trans (b:=(.tuple #[(.slice none 0 0),(iV (0)),(.bool (false)),(iV (0))])) rfl ?_,Val.cast ?_ Gx⟩
  ·have hx:dep l (Ba l rs) (1 <<< l.tests.length - 1) = none:=by cases hx:dep l (Ba l rs) (1 <<< l.tests.length - 1) with | none=>rfl | some d=>(exfalso; have h5:=Nc hl31 hx; have h6:=Lg hl31; rw [hx,Ha] at q29; omega)
   rw [Zr,Zq,if_pos hC6,if_pos hC6,hx,hC6]; rfl
  ·have hx:dep l (Ba l rs) (1 <<< l.tests.length - 1) = none:=by cases hx:dep l (Ba l rs) (1 <<< l.tests.length - 1) with | none=>rfl | some d=>(exfalso; have h5:=Nc hl31 hx; have h6:=Lg hl31; rw [hx,Ha] at q29; omega)
   rw [Zs,if_pos hC6,hx]
 have q29:=of_decide_eq_false b29
 refine Al ?_
 apply k27
 refine w_q rfl rfl fun K31 k31=>?_
 refine Arv (Ct Arn fun k32=>?_)
 refine Arx rfl rfl k31 fun K33 k33=>?_
 refine l_v (Il (fn:=.func 87) (caps:=[.tmp 8,.tmp 4,.tmp 11]) (vs:=[(.pointer (some ⟨k11,0,none⟩)),(.pointer (some ⟨k3,0,none⟩)),(.pointer (some ⟨k32,0,none⟩))]) ⟨rfl,rfl,rfl,trivial⟩) ?_
 refine Cx rfl (Dv (v:=(.func (.func 87) #[] #[(.pointer (some ⟨k11,0,none⟩)),(.pointer (some ⟨k3,0,none⟩)),(.pointer (some ⟨k32,0,none⟩))])) (a:=(RawV.mk ((.func (.func 87) #[] #[(.pointer (some ⟨k11,0,none⟩)),(.pointer (some ⟨k3,0,none⟩)),(.pointer (some ⟨k32,0,none⟩))])))) (c:=Ari) Adr rfl rfl (Sp rfl) rfl ?_)
 refine Bb (a:=(RawV.mk ((.func (.func 87) #[] #[(.pointer (some ⟨k11,0,none⟩)),(.pointer (some ⟨k3,0,none⟩)),(.pointer (some ⟨k32,0,none⟩))])))) (Sp rfl) fun ρ34 l34 r34=>?_
 replace hg:=Glob.mono l34 hg
 replace r12:=At.mono l34 r12
 replace r21:=At.mono l34 r21
 refine Arx rfl rfl k33 fun K35 k35=>?_
 refine l_v (Lb Adr rfl r34) ?_
 refine Arw (Ax Oq rfl r21) fun v37 r37=>?_
 obtain ⟨e38_,⟨i38_1a,i38_1b⟩,⟨i38_2a,i38_2b⟩⟩:=State.open_ r37
 have e38_c:v37.cells = [(iV ((((Bf (Ba l rs)):Nat):Int))),(iV (((((1 <<< l.tests.length) - 1):Nat):Int)))].toArray:=by rw [e38_]; rfl
 obtain ⟨d0,hd0⟩:∃ d,dep l (Ba l rs) (1 <<< l.tests.length - 1) = some d:=by cases hx:dep l (Ba l rs) (1 <<< l.tests.length - 1) with | none=>(rw [hx,Nd] at q29; exact absurd (Int.le_refl _) q29) | some d=>exact ⟨d,rfl⟩
 have hpw:2 ^ (De (1 <<< l.tests.length - 1) + 1) ≤ 2 ^ 6:=Nat.pow_le_pow_right (by omega) (by have:=Lg hl31; omega)
 refine Bj (Asg Arz) ?_
 refine Arv (Sq (vs:=[(.agg #[(iV ((((Bf (Ba l rs)):Nat):Int))),(iV (((((1 <<< l.tests.length) - 1):Nat):Int)))])]) (caps:=[(.pointer (some ⟨k11,0,none⟩)),(.pointer (some ⟨k3,0,none⟩)),(.pointer (some ⟨k32,0,none⟩))]) rfl (Akq (gr:=[]) (tree:=[]) hg r12 r34 Hm hl hm16 (by omega) ((Fp ok).symm ▸ hd0) (by simp only [List.length_nil]; omega) MM26) Tryz.func87 rfl rfl ⟨(rfl.trans e38_),trivial⟩ fun w39 ρ39 σ39 hc39=>?_)
 obtain ⟨l39,v39,gr39,es39,ck39,hw39,hs39,G39,MM39⟩:=hc39
 rw [Fp ok] at hw39 G39
 subst hs39 hw39
 have hgl39:=(Ia:_ ≤ (Bp l [] (Ba l rs) (1 <<< l.tests.length - 1)).1.length∧(Bp l [] (Ba l rs) (1 <<< l.tests.length - 1)).1.length + 1 ≤ _)
 have hgi39:=(Pe:(Bp l [] (Ba l rs) (1 <<< l.tests.length - 1)).2 = -1∨(Bp l [] (Ba l rs) (1 <<< l.tests.length - 1)).2 = _)
 try simp only [List.length_append,List.length_singleton] at hgl39 hgi39
 refine Arx rfl rfl k35 fun K40 k40=>?_
 refine Arv (Gu (v:=v39) ⟨_,Tryz.underlying114,rfl⟩ rfl (List.mem_append_right _ (List.mem_cons_self ..)) rfl ?_)
 refine l_v (Ah (v:=(iV ((Dp (dep l (Ba l rs) (1 <<< l.tests.length - 1)))))) rfl) ?_
 refine Bj (Asg Asd) ?_
 refine Cx rfl (Cz (j:=0) (v:=v39) ⟨_,Ab Tryz.typeInfo114,rfl⟩ rfl rfl (Grow.single G39) rfl (Nat.le_of_ble_eq_true rfl) ?_)
 refine l_v (Cp (v:=(iV ((Dp (dep l (Ba l rs) (1 <<< l.tests.length - 1)))))) rfl) ?_
 refine l_v (Cp (v:=(.bool (true))) rfl) ?_
 refine l_v (Cp (v:=(iV (0))) rfl) ?_
 refine l_k k40 ?_
 refine Aj (Asg Asc) ?_
 refine Hc G39 fun ρ41 l41 r41=>?_
 refine Aj (Asg Arz) ?_
 refine Aj Ghost.drop ?_
 refine Aq ?_
 refine hret _ _ _ _ _ [v39,(iV ((Dp (dep l (Ba l rs) (1 <<< l.tests.length - 1))))),(.bool (true)),(iV (0))] ⟨(Rj ⟨_,Tryz.underlying114,rfl⟩ rfl (i:=0) rfl rfl),rfl,rfl,rfl,trivial⟩ Ghost.drop ?_
 refine ⟨(Asi (Asi (Asi (Asi (Asi (Asi l2 l6) l12) l21) l34) l39) l41),rfl,v39,Eq.trans (b:=(.tuple #[v39,(iV ((Dp (dep l (Ba l rs) (1 <<< l.tests.length - 1))))),(.bool (true)),(iV (0))])) rfl ?_,Val.cast ?_ r41⟩
 ·rw [Zr,Zq,if_pos hC6,if_pos hC6,hd0,hC6]; rfl
 ·rw [Zs,if_pos hC6,hd0]
end Go.Proofs.YtphgjjmlnkgghaaGreatDoor

namespace Go.Proofs.YtphgjjmlnkgghaaGreatDoor
open Go
theorem Qh {P:Program} {ρ:Ro} {σ:Own} {e:Env} {a i n':Nat} {t t':TypeId} {r:Nat} {cs:List Value} {fz:Nat × Nat} (hT:∃ d,P.underlying t = some d∧Qv d = true) (hz:∃ i,P.info? t = some i∧i.size = n') (ha:e a = .pointer (some ⟨r,0,none⟩)) (hi:σ[i]? = some (r,.obj (.cells cs.toArray t' fz))) (hn:cs.length = n'):Akh P ρ σ e (.cell a t) (.agg cs.toArray):=by
  intro Q hQ
  rw [ha]
  show wpS P ρ (loadVar t ⟨r,0,none⟩) σ _
  show wpS P ρ ((isAgg t).bind _) σ _
  rw [Ad]
  refine Hi hT ?_
  show wpS P ρ ((sizeOf t).bind fun n=>(loadCells ⟨r,0,none⟩ n).bind _) σ _
  rw [Ad]
  refine Dx hz ?_
  rw [Ad,← hn]
  refine Ff rfl (.inr (List.mem_of_getElem? hi)) cs 0 #[] (fun j w hj=>?_) ?_
  · simpa [Gy] using hj
  · have e1:(#[]:Array Value) ++ cs.toArray = cs.toArray:=by simp
    rw [e1]; exact hQ
theorem Afh {c vs:List Value} (h:vs.length = c.length):over c 0 vs = vs:=by
  rw [Qe _ _ _ (by omega)]; simp [h]
section
variable {C:Ctx} {e:Env} {ds:List Deferred} {ρ:Ro} {σ:Own} {K:Value→List Deferred→Ro→Own→Prop} {rd:Option Nat} {dd:Option Tmp}
variable {ty:TypeId} {pos:String} {af:Array Edge} {g:Option (Nat × Bool)} {x y:Operand} {v:Value} {t t':TypeId}
theorem Afr {β:Type} {f:β→Value} {xs:List β} {r i n':Nat} {fz:Nat × Nat} (hT:∃ d,C.P.underlying t = some d∧Qv d = true) (hz:∃ i,C.P.info? t = some i∧i.size = n') (hx:Af e x = .pointer (some ⟨r,0,none⟩)) (hi:σ[i]? = some (r,.obj (.cells (xs.map f).toArray t' fz)))
    (hn:xs.length = n') (h:K (.agg (xs.map f).toArray) ds ρ σ):wpS C.P ρ (execOp (Af e) ⟨dd,.load t x,ty,pos,af,g⟩) σ (NextH C K rd ds ρ) :=
  Xo (cs:=xs.map f) (rs:=[]) hT hz hx hi (by simp) (by simpa using hn) h
theorem Acb {β:Type} {f:β→Value} {xs ys:List β} {r i n':Nat} (hz:∃ i,C.P.info? t = some i∧i.size = n') (hx:Af e x = .pointer (some ⟨r,0,none⟩)) (hy:Af e y = .agg (ys.map f).toArray) (hs:∀ b,single (f b) = true) (hi:σ[i]? = some (r,.obj (.cells (xs.map f).toArray t' (0,0))))
    (hn:ys.length = n') (hl:xs.length = n') (h:K undef ds ρ (σ.set i (r,.obj (.cells (ys.map f).toArray t' (0,0))))):wpS C.P ρ (execOp (Af e) ⟨dd,.store t x y,ty,pos,af,g⟩) σ (NextH C K rd ds ρ) :=
  Li (vs:=ys.map f) (c:=xs.map f) (c':=ys.map f) hz hx hy rfl (by simpa using hn) (by intro w hw; obtain ⟨b,_,rfl⟩:=List.mem_map.1 hw; exact hs b) hi (by simp [hn,hl]) (Afh (by simp [hn,hl])) h
end
theorem Ajn {ρ:Ro} {xs:List Int} (h:xs.length = 5) (h':∀ a ∈ xs,I64 a):Val ρ (.agg (xs.map (Value.int .i64)).toArray) (⟨xs⟩:Arr5):=⟨_,⟨rfl,h,h'⟩,rfl⟩
end Go.Proofs.YtphgjjmlnkgghaaGreatDoor

namespace Go.Proofs.YtphgjjmlnkgghaaGreatDoor
set_option maxHeartbeats 1000000
open Go
def Iu (x y:Int):Int:=if x < y then -1 else if x > y then 1 else 0
def Gz:List Int→List Int→Int
 | [],[]=>0
 | [],_ :: _=>-1
 | _ :: _,[]=>1
 | x :: xs,y :: ys=>if Iu x y ≠ 0 then Iu x y else Gz xs ys
theorem Wz {x y:Int}:Iu x y = 0↔x = y:=by
 unfold Iu; split
 ·constructor <;> intro h <;> omega
 ·split <;> constructor <;> intro h <;> omega
theorem Tg {a b:List Int}:∀ {i:Nat},(∀ j,j < i→a[j]? = b[j]?)→i ≤ a.length→i ≤ b.length→Gz a b = Gz (a.drop i) (b.drop i):=by
 induction a generalizing b with
 | nil =>
  intro i h h1 h2
  obtain rfl:i = 0:=by simpa using h1
  rfl
 | cons x a ih =>
  intro i h h1 h2
  cases i with
  | zero=>rfl
  | succ i =>
   cases b with
   | nil=>simp at h2
   | cons y b =>
    have h0:=h 0 (by omega)
    obtain rfl:x = y:=by simpa using h0
    show (if Iu x x ≠ 0 then Iu x x else Gz a b) = _
    rw [if_neg (by simp [Wz])]
    exact ih (fun j hj=>by simpa using h (j + 1) (by omega)) (by simpa using h1) (by simpa using h2)
theorem Ahh {a b:List Int} {i:Nat} (h:∀ j,j < i→a[j]? = b[j]?) (h1:i < a.length) (h2:i ≤ b.length) (h3:b.length ≤ i):Gz a b = 1:=by
 rw [Tg h (by omega) h2,List.drop_eq_nil_of_le h3,List.drop_eq_getElem_cons h1]; rfl
theorem Anf {a b:List Int} {i:Nat} {x y:Int} (h:∀ j,j < i→a[j]? = b[j]?) (hx:a[i]? = some x) (hy:b[i]? = some y) (hc:Iu x y ≠ 0):Gz a b = Iu x y:=by
 obtain ⟨h1,rfl⟩:=List.getElem?_eq_some_iff.1 hx
 obtain ⟨h2,rfl⟩:=List.getElem?_eq_some_iff.1 hy
 rw [Tg h (by omega) (by omega),List.drop_eq_getElem_cons h1,List.drop_eq_getElem_cons h2]
 show (if Iu _ _ ≠ 0 then Iu _ _ else _) = _
 rw [if_pos hc]
theorem Acz {a b:List Int} {i:Nat} (h:∀ j,j < i→a[j]? = b[j]?) (h1:i = a.length) (h2:i ≤ b.length):Gz a b = if a.length < b.length then -1 else 0:=by
 rw [Tg h (by omega) h2,List.drop_eq_nil_of_le (by omega)]
 split
 ·rename_i hl
  rw [List.drop_eq_getElem_cons (show i < b.length by omega)]; rfl
 ·rw [List.drop_eq_nil_of_le (by omega)]; rfl
/-- What the fields up to here give to a house. -/
def Fl (m:Market) (i:Nat) (h:Int):Int:=((m.fields.take i).map (Es h)).sum
def Rk (m:Market) (i:Nat):List Int:=(List.range 5).map fun h:Nat=>Fl m i (h:Int)
theorem Uf {m:Market} {i:Nat}:(Rk m i).length = 5:=by simp [Rk]
theorem rowG_0 {m:Market}:Rk m 0 = List.replicate 5 0:=by simp [Rk,Fl,List.range_succ,List.replicate]
theorem Za {m:Market} {i:Nat} {h:Int} (h0:0 ≤ h) (h5:h < 5):(Rk m i)[h.toNat]? = some (Fl m i h):=by
 unfold Rk
 rw [List.getElem?_map,List.getElem?_range (by omega)]
 simp only [Option.map_some,Int.toNat_of_nonneg h0]
theorem Afi {m:Market} {i:Nat} {x:FField} (hx:m.fields[i]? = some x) (h0:0 ≤ x.house) (h5:x.house < 5):(Rk m i).set x.house.toNat (Fl m i x.house + x.grows.high) = Rk m (i + 1):=by
 have hs:∀ h,Fl m (i + 1) h = Fl m i h + Es h x:=fun h=>Zm hx
 apply List.ext_getElem?
 intro k
 rw [List.getElem?_set,Uf]
 by_cases hk:k < 5
 ·have hg:∀ j,(Rk m j)[k]? = some (Fl m j (k:Int)):=fun j=>by
   have:=Za (m:=m) (i:=j) (h:=(k:Int)) (by omega) (by omega); simpa using this
  rw [hg,hg,hs]
  split
  ·rename_i e
   rw [if_pos (by omega),show (k:Int) = x.house by omega]
   simp [Es]
  ·rename_i e
   rw [Es,if_neg (by omega),Int.add_zero]
 ·rw [List.getElem?_eq_none (l:=Rk m (i + 1)) (by rw [Uf]; omega)]
  split
  ·omega
  ·exact List.getElem?_eq_none (by rw [Uf]; omega)
theorem Rb {m:Market} (ok:MarketOk m) (h:Int):∀ {i:Nat},i ≤ m.fields.length→0 ≤ Fl m i h∧Fl m i h ≤ 1000000 * (i:Int)
 | 0,_=>by simp [Fl]
 | i + 1,hi=>by
  obtain ⟨x,hx⟩:∃ x,m.fields[i]? = some x:=⟨_,List.getElem?_eq_getElem (by omega)⟩
  have h1:=Rb ok h (i:=i) (by omega)
  have h2:=Xb (h:=h) (ok.field _ _ hx).2.2.2.1
  have h3:Fl m (i + 1) h = Fl m i h + Es h x:=Zm hx
  rw [h3]; push_cast; omega
def En (m:Market):List Int:=(List.range 5).map fun h:Nat=>Em m (h:Int)
theorem Aiv {m:Market} {i:Nat} (h:m.fields.length ≤ i):Rk m i = En m:=by
 unfold Rk En Fl Em; rw [List.take_of_length_le h]
theorem Aey {m:Market} (ok:MarketOk m):(En m).length = 5∧∀ a ∈ En m,I64 a:=by
 refine ⟨by simp [En],fun a ha=>?_⟩
 obtain ⟨h,_,rfl⟩:=List.mem_map.1 ha
 have h1:=Rb ok (h:Int) (i:=m.fields.length) (Nat.le_refl _)
 have h2:Fl m m.fields.length (h:Int) = Em m (h:Int):=by unfold Fl Em; rw [List.take_length]
 have h6:=ok.nfields
 rw [h2] at h1
 constructor <;> omega
set_option maxRecDepth 100000 in
theorem Act {mn:Bool} {X:Frame→List Frame→Ro→Own→Cy→Prop} {ρ:Ro} {σ:Own} {x:Int} :CallsH (CX mn X) 173 #[(iV (x))] ρ σ (fun w ρ' σ'=>ρ' = ρ∧σ' = σ∧w = (.bool (false))):=by
 refine Bh (n:=6) (args:=[(iV (x))]) [2] Tryz.func173 rfl rfl rfl rfl fun Q hret hnor=>?_
 refine w_q rfl rfl fun K1 k1=>?_
 refine l_v (Cp (v:=(.bool (false))) rfl) ?_
 refine Arx rfl rfl k1 fun K2 k2=>?_
 refine l_v (Ah (v:=(iV (x))) rfl) ?_
 refine l_v (Ah (v:=(iV (x))) rfl) ?_
 refine l_v (Dg rfl rfl) ?_
 refine l_v (Cp (v:=(.bool (x != x))) rfl) ?_
 refine l_k k2 ?_
 refine Aq ?_
 refine hret _ _ _ ⟨rfl,rfl,Eq.trans (b:=(.bool (x != x))) rfl ?_⟩
 simp
set_option maxRecDepth 100000 in
theorem Ana {mn:Bool} {X:Frame→List Frame→Ro→Own→Cy→Prop} {ρ:Ro} {σ:Own} {x y:Int} :CallsH (CX mn X) 139 #[(iV (x)),(iV (y))] ρ σ (fun w ρ' σ'=>ρ' = ρ∧σ' = σ∧w = (iV (Iu x y))):=by
 refine Bh (n:=20) (args:=[(iV (x)),(iV (y))]) [4] Tryz.func139 rfl rfl rfl rfl fun Q hret hnor=>?_
 refine w_q rfl rfl fun K1 k1=>?_
 refine l_v (Cp (v:=(iV (0))) rfl) ?_
 refine Arx rfl rfl k1 fun K2 k2=>?_
 refine l_v (Ah (v:=(iV (x))) rfl) ?_
 refine Arv (Bm (Act (x:=x)) Tryz.func173 rfl rfl ⟨rfl,trivial⟩ ?_)
 refine l_v (Cp (v:=(.bool (false))) rfl) ?_
 refine Arx rfl rfl k2 fun K3 k3=>?_
 refine l_v (Ah (v:=(iV (y))) rfl) ?_
 refine Arv (Bm (Act (x:=y)) Tryz.func173 rfl rfl ⟨rfl,trivial⟩ ?_)
 refine l_v (Cp (v:=(.bool (false))) rfl) ?_
 refine Ary rfl rfl k3 fun K4 K5 k4 k5=>?_
 refine l_v (Ah (v:=(.bool (false))) rfl) ?_
 refine l_k k5 ?_
 refine Cg rfl rfl ?_
 refine Al ?_
 apply k4
 refine Asb rfl rfl fun K6 K7 k6 k7=>?_
 refine l_v (Ah (v:=(.bool (false))) rfl) ?_
 refine l_k k7 ?_
 refine Cg rfl rfl ?_
 refine Al ?_
 apply k6
 refine Asb rfl rfl fun K8 K9 k8 k9=>?_
 refine l_v (Ah (v:=(iV (x))) rfl) ?_
 refine l_v (Ah (v:=(iV (y))) rfl) ?_
 refine l_v (Da rfl rfl) ?_
 refine l_k k9 ?_
 refine As (t:=decide (x < y)) rfl (fun b10=>?_) (fun b10=>?_)
 ·have q10:=of_decide_eq_true b10
  refine w_q rfl rfl fun K11 k11=>?_
  refine l_v (Cp (v:=(iV ((-1)))) rfl) ?_
  refine l_k k11 ?_
  refine Aq ?_
  refine hret _ _ _ ⟨rfl,rfl,Eq.trans (b:=(iV ((-1)))) rfl ?_⟩
  simp only [Iu]; repeat' split
  all_goals first | rfl | omega
 have q10:=of_decide_eq_false b10
 refine Al ?_
 apply k8
 refine Asb rfl rfl fun K12 K13 k12 k13=>?_
 refine l_v (Ah (v:=(iV (x))) rfl) ?_
 refine l_v (Ah (v:=(iV (y))) rfl) ?_
 refine l_v (Gl rfl rfl) ?_
 refine l_k k13 ?_
 refine As (t:=decide (x > y)) rfl (fun b14=>?_) (fun b14=>?_)
 ·have q14:=of_decide_eq_true b14
  refine w_q rfl rfl fun K15 k15=>?_
  refine l_v (Cp (v:=(iV (1))) rfl) ?_
  refine l_k k15 ?_
  refine Aq ?_
  refine hret _ _ _ ⟨rfl,rfl,Eq.trans (b:=(iV (1))) rfl ?_⟩
  simp only [Iu]; repeat' split
  all_goals first | rfl | omega
 have q14:=of_decide_eq_false b14
 refine Al ?_
 apply k12
 refine w_q rfl rfl fun K16 k16=>?_
 refine l_v (Cp (v:=(iV (0))) rfl) ?_
 refine l_k k16 ?_
 refine Aq ?_
 refine hret _ _ _ ⟨rfl,rfl,Eq.trans (b:=(iV (0))) rfl ?_⟩
 simp only [Iu]; repeat' split
 all_goals first | rfl | omega
set_option maxRecDepth 100000 in
theorem Agy {mn:Bool} {X:Frame→List Frame→Ro→Own→Cy→Prop} {ρ:Ro} {σ:Own} {a b:List Int} {va vb:Value} (ra:Val ρ va a) (rb:Val ρ vb b):CallsH (CX mn X) 95 #[va,vb] ρ σ (fun w ρ' σ'=>ρ' = ρ∧σ' = σ∧w = (iV (Gz a b))):=by
 refine Bh (n:=36) (args:=[va,vb]) [4] Tryz.func95 rfl rfl rfl rfl fun Q hret hnor=>?_
 refine w_q rfl rfl fun K1 k1=>?_
 refine l_v (Cp (v:=(iV (0))) rfl) ?_
 refine Ary rfl rfl k1 fun K2 K3 k2 k3=>?_
 refine l_v (Ah (v:=va) rfl) ?_
 have g4:=Val.len ra
 refine l_v (Ci (el:=3) Tryz.underlying49 rfl ra) ?_
 refine l_v (Ah (v:=(iV (0))) rfl) ?_
 refine l_k k3 ?_
 refine Ao ?_
 refine Cc (fun mm ee dd ρ' σ'=>∃ (i:Nat),(a.length - i) = mm∧[] = dd∧ρ = ρ'∧σ = σ'∧ee 0 = va∧ee 1 = vb∧ee 9 = va∧ee 10 = (iV (((a.length:Nat):Int)))∧ee 11 = (iV ((i:Int)))∧(i ≤ a.length)∧(i ≤ b.length)∧(∀ j,j < i→a[j]? = b[j]?)∧True) (m:=_) ⟨0,rfl,rfl,rfl,rfl,rfl,rfl,rfl,rfl,rfl,(Nat.zero_le _),(Nat.zero_le _),(fun j h=>absurd h (Nat.not_lt_zero _)),trivial⟩ ?_
 rintro m5 e5 _ _ _ ⟨i,rfl,rfl,rfl,rfl,h5_0,h5_1,h5_9,h5_10,h5_11,p5_0,p5_1,p5_2,_⟩
 refine w_q rfl rfl fun K6 k6=>?_
 refine l_v (Da h5_11 h5_10) ?_
 refine Asa k6 fun K7 k7=>?_
 refine As (t:=decide ((i:Int) < ((a.length:Nat):Int))) rfl (fun b8=>?_) (fun b8=>?_)
 ·have q8:=of_decide_eq_true b8
  refine Al ?_
  apply k7
  refine Ai fun K9 k9=>?_
  refine Ao ?_
  refine w_q rfl rfl fun K10 k10=>?_
  refine l_v (Ah (v:=(iV ((i:Int)))) h5_11) ?_
  obtain ⟨a12,ha12⟩:=Ed (xs:=a) (i:=i) (by omega)
  refine Arw (Ch i Tryz.underlying49 ty3 h5_9 ra (q:=(i:Int)) h5_11 rfl ha12) fun v11 r11=>?_
  have ⟨g13a,g13b⟩:=At.rng r11
  refine l_v (Bc ty3 rfl r11) ?_
  refine l_v (Cp (v:=(iV ((i:Int)))) rfl) ?_
  refine l_v (Cp (v:=(iV (a12))) rfl) ?_
  refine Ary rfl rfl k10 fun K14 K15 k14 k15=>?_
  refine l_v (Ah (v:=(iV ((i:Int)))) rfl) ?_
  refine l_v (Ah (v:=vb) h5_1) ?_
  have g16:=Val.len rb
  refine l_v (Ci (el:=3) Tryz.underlying49 rfl rb) ?_
  refine l_v (Uy rfl rfl) ?_
  refine l_k k15 ?_
  refine As (t:=decide ((i:Int) ≥ ((b.length:Nat):Int))) rfl (fun b17=>?_) (fun b17=>?_)
  ·have q17:=of_decide_eq_true b17
   refine w_q rfl rfl fun K18 k18=>?_
   refine l_v (Cp (v:=(iV (1))) rfl) ?_
   refine l_k k18 ?_
   refine Aq ?_
   refine hret _ _ _ ⟨rfl,rfl,Eq.trans (b:=(iV (1))) rfl ?_⟩
   rw [Ahh p5_2 (by omega) (by omega) (by omega)]
  have q17:=of_decide_eq_false b17
  refine Al ?_
  apply k14
  refine w_q rfl rfl fun K19 k19=>?_
  refine l_v (Ah (v:=vb) h5_1) ?_
  refine l_v (Ah (v:=(iV ((i:Int)))) rfl) ?_
  obtain ⟨a21,ha21⟩:=Ed (xs:=b) (i:=i) (by omega)
  refine Arw (Ch i Tryz.underlying49 ty3 rfl rb (q:=(i:Int)) rfl rfl ha21) fun v20 r20=>?_
  have ⟨g22a,g22b⟩:=At.rng r20
  refine l_v (Bc ty3 rfl r20) ?_
  refine l_v (Cp (v:=(iV (a21))) rfl) ?_
  refine Arx rfl rfl k19 fun K23 k23=>?_
  refine l_v (Ah (v:=(iV (a12))) rfl) ?_
  refine l_v (Ah (v:=(iV (a21))) rfl) ?_
  refine Arv (Bm (Ana (x:=a12) (y:=a21)) Tryz.func139 rfl rfl ⟨rfl,rfl,trivial⟩ ?_)
  refine l_v (Cp (v:=(iV ((Iu a12 a21)))) rfl) ?_
  refine Arx rfl rfl k23 fun K24 k24=>?_
  refine l_v (Ah (v:=(iV ((Iu a12 a21)))) rfl) ?_
  refine l_v (Dg rfl rfl) ?_
  refine l_k k24 ?_
  refine As (t:=(Iu a12 a21) != 0) rfl (fun b25=>?_) (fun b25=>?_)
  ·have q25:=Ls b25
   refine w_q rfl rfl fun K26 k26=>?_
   refine l_v (Ah (v:=(iV ((Iu a12 a21)))) rfl) ?_
   refine l_v (Cp (v:=(iV ((Iu a12 a21)))) rfl) ?_
   refine l_k k26 ?_
   refine Aq ?_
   refine hret _ _ _ ⟨rfl,rfl,Eq.trans (b:=(iV ((Iu a12 a21)))) rfl ?_⟩
   rw [Anf p5_2 ha12 ha21 q25]
  have q25:=Jh b25
  refine Al ?_
  apply k9
  refine Ag rfl rfl ?_
  refine l_v (Br h5_11 rfl (z:=(((i + 1):Nat):Int)) (Bo (by first | rfl | omega | (push_cast; rfl)) (by omega) (by omega))) ?_
  refine l_v (Ah (v:=(iV ((((i + 1):Nat):Int)))) rfl) ?_
  apply Ac
  refine ⟨_,?_,((i + 1)),rfl,rfl,rfl,rfl,h5_0,h5_1,h5_9,h5_10,rfl,(by omega),(by omega),(Eg p5_2 (by rw [ha12,ha21,Wz.1 q25])),trivial⟩
  omega
 have q8:=of_decide_eq_false b8
 refine Bx ?_
 apply k2
 refine Asb rfl rfl fun K27 K28 k27 k28=>?_
 refine l_v (Ah (v:=va) h5_0) ?_
 have g29:=Val.len ra
 refine l_v (Ci (el:=3) Tryz.underlying49 rfl ra) ?_
 refine l_v (Ah (v:=vb) h5_1) ?_
 have g30:=Val.len rb
 refine l_v (Ci (el:=3) Tryz.underlying49 rfl rb) ?_
 refine l_v (Da rfl rfl) ?_
 refine l_k k28 ?_
 refine As (t:=decide (((a.length:Nat):Int) < ((b.length:Nat):Int))) rfl (fun b31=>?_) (fun b31=>?_)
 ·have q31:=of_decide_eq_true b31
  refine w_q rfl rfl fun K32 k32=>?_
  refine l_v (Cp (v:=(iV ((-1)))) rfl) ?_
  refine l_k k32 ?_
  refine Aq ?_
  refine hret _ _ _ ⟨rfl,rfl,Eq.trans (b:=(iV ((-1)))) rfl ?_⟩
  rw [Acz p5_2 (by omega) (by omega)]; first | rw [if_pos (by omega)] | rw [if_neg (by omega)]
 have q31:=of_decide_eq_false b31
 refine Al ?_
 apply k27
 refine w_q rfl rfl fun K33 k33=>?_
 refine l_v (Cp (v:=(iV (0))) rfl) ?_
 refine l_k k33 ?_
 refine Aq ?_
 refine hret _ _ _ ⟨rfl,rfl,Eq.trans (b:=(iV (0))) rfl ?_⟩
 rw [Acz p5_2 (by omega) (by omega)]; first | rw [if_pos (by omega)] | rw [if_neg (by omega)]
set_option maxRecDepth 100000 in
theorem Td {mn:Bool} {X:Frame→List Frame→Ro→Own→Cy→Prop} {ρ:Ro} {σ:Own} {m:Market} {vm:Value} (rm:Val ρ vm m) (ok:MarketOk m):CallsH (CX mn X) 92 #[vm] ρ σ (fun w ρ' σ'=>Ro.le ρ ρ'∧σ' = σ∧Val ρ' w ((⟨En m⟩:Arr5):Arr5)):=by
 have hh5:=Hn ok
 have hf6:=ok.nfields
 refine Lt (n:=24) (args:=[vm]) [.cell 2 205] Tryz.func92 rfl rfl rfl rfl fun Q hret hnor=>?_
 refine w_q rfl rfl fun K1 k1=>?_
 refine Arv (Eb (v:=vm) rfl fun k2=>?_)
 refine Bb (a:=m) rm fun ρ2 l2 r2=>?_
 refine Arv (Ct Amu fun k3=>?_)
 refine Arx rfl rfl k1 fun K4 k4=>?_
 refine Arv (Ct Amu fun k5=>?_)
 refine Ary rfl rfl k4 fun K6 K7 k6 k7=>?_
 refine Arw (Ay Market.f_fields Tryz.underlying36 rfl rfl Se (by decide) rfl r2) fun v8 r8=>?_
 refine Arw (Ax Se rfl r8) fun v9 r9=>?_
 have g10:=Val.len r9
 refine l_v (Ci (el:=47) Tryz.underlying33 rfl r9) ?_
 refine l_v (Ah (v:=(iV (0))) rfl) ?_
 refine l_k k7 ?_
 refine Ao ?_
 refine Cc (fun mm ee dd ρ' σ'=>∃ (i:Nat) (rx11_3:List Int),(m.fields.length - i) = mm∧[] = dd∧ρ2 = ρ'∧((k5,oC (rx11_3.map (Value.int .i64)).toArray 205) :: ((k3,oC (((List.replicate 5 (0:Int))).map (Value.int .i64)).toArray 205) :: σ)) = σ'∧ee 2 = (.pointer (some ⟨k3,0,none⟩))∧ee 7 = v9∧ee 8 = (iV (((m.fields.length:Nat):Int)))∧ee 3 = (.pointer (some ⟨k5,0,none⟩))∧ee 9 = (iV ((i:Int)))∧(i ≤ m.fields.length)∧rx11_3 = Rk m i∧rx11_3.length = 5∧True) (m:=_) ⟨0,(List.replicate 5 (0:Int)),rfl,rfl,rfl,rfl,rfl,rfl,rfl,rfl,rfl,(Nat.zero_le _),(rowG_0.symm),(List.length_replicate),trivial⟩ ?_
 rintro m11 e11 _ _ _ ⟨i,rx11_3,rfl,rfl,rfl,rfl,h11_2,h11_7,h11_8,h11_3,h11_9,p11_0,RX11_3,RL11_3,_⟩
 refine w_q rfl rfl fun K12 k12=>?_
 refine l_v (Da h11_9 h11_8) ?_
 refine Asa k12 fun K13 k13=>?_
 refine As (t:=decide ((i:Int) < ((m.fields.length:Nat):Int))) rfl (fun b14=>?_) (fun b14=>?_)
 ·have q14:=of_decide_eq_true b14
  refine Al ?_
  apply k13
  refine Ai fun K15 k15=>?_
  refine Ao ?_
  refine w_q rfl rfl fun K16 k16=>?_
  obtain ⟨a18,ha18⟩:=Ed (xs:=m.fields) (i:=i) (by omega)
  have gb_a18:=ok.field _ _ ha18
  obtain ⟨gh0_a18,gh1_a18⟩:=gb_a18.2.2.1
  have gg_a18:=gb_a18.2.2.2.1
  have gt_a18:=Rb ok a18.house (i:=i) (by omega)
  refine Arw (Ch i Tryz.underlying33 Lo h11_7 r9 (q:=(i:Int)) h11_9 rfl ha18) fun v17 r17=>?_
  refine Arw (Ax Lo rfl r17) fun v19 r19=>?_
  refine Arv (Ct Xu fun k20=>?_)
  refine Cx rfl (Dv (v:=v19) (a:=a18) (c:=Aah) Lo rfl rfl r19 rfl ?_)
  refine Bb (a:=a18) r19 fun ρ21 l21 r21=>?_
  refine l_k k16 ?_
  refine Dc [0,1,2,3,4,5,6,7,8,9] (by kernel_rfl) rfl rfl ?_
  refine Cd (i:=0) zZ7 rfl (by kernel_rfl) rfl Ash rfl (Ay FField.f_house Tryz.underlying47 rfl rfl ty3 (by decide) rfl r21) fun v22 r22=>?_
  have ⟨g23a,g23b⟩:=At.rng r22
  refine Bd (i:=1) zZ8 rfl (by kernel_rfl) rfl Ash rfl (Bc ty3 rfl r22) ?_
  refine Bd (i:=2) zZ9 rfl (by kernel_rfl) rfl Ash rfl (Cq (k':=1) ((a18.house).toNat) Tryz.underlying205 ⟨_,Ab Tryz.typeInfo3,rfl⟩ h11_3 (q:=a18.house) rfl (by omega) (by omega) (off':=((a18.house).toNat)) (by omega)) ?_
  refine Cd (i:=4) [o1,o1,o1,o0,o1,o0,o0,o0,o0,o0] rfl (by kernel_rfl) rfl Ash rfl (Ay FField.f_grows Tryz.underlying47 rfl rfl Mx (by decide) rfl r21) fun v24 r24=>?_
  refine Cd (i:=5) [o1,o1,o1,o0,o1,o1,o0,o0,o0,o0] rfl (by kernel_rfl) rfl Ash rfl (Ay Span.f_high Tryz.underlying41 rfl rfl ty3 (by decide) rfl r24) fun v25 r25=>?_
  have ⟨g26a,g26b⟩:=At.rng r25
  refine Bd (i:=6) [o1,o1,o1,o0,o1,o1,o1,o0,o0,o0] rfl (by kernel_rfl) rfl Ash rfl (Bc ty3 rfl r25) ?_
  refine Dj (i:=3) Ajy rfl (by kernel_rfl) rfl rfl (Adu (j:=0) (f:=(Value.int .i64)) (i:=(a18.house).toNat) (bv:=Fl m i a18.house) ⟨_,Tryz.underlying3,rfl⟩ rfl rfl (by rw [RX11_3]; exact Za gh0_a18 (by omega)) ⟨Ash,?_⟩)
  refine Bg (i:=7) Ajz rfl (by kernel_rfl) rfl Ash rfl (Br rfl rfl (z:=(Fl m i a18.house + a18.grows.high)) (Bo (by rfl) (by omega) (by omega))) ?_
  refine Bg (i:=8) Aka rfl (by kernel_rfl) rfl Ash rfl (Cq (k':=1) ((a18.house).toNat) Tryz.underlying205 ⟨_,Ab Tryz.typeInfo3,rfl⟩ h11_3 (q:=a18.house) rfl (by omega) (by omega) (off':=((a18.house).toNat)) (by omega)) ?_
  refine Fg (i:=9) Akb rfl (by kernel_rfl) rfl rfl (Zx (j:=0) (f:=(Value.int .i64)) (i:=(a18.house).toNat) (bv:=(Fl m i a18.house + a18.grows.high)) ⟨_,Ab Tryz.typeInfo3,rfl⟩ rfl rfl rfl rfl (by rw [RL11_3]; omega) ⟨Ash,?_⟩)
  refine Ec rfl ?_
  apply k15
  refine Ag rfl rfl ?_
  refine l_v (Br h11_9 rfl (z:=(((i + 1):Nat):Int)) (Bo (by first | rfl | omega | (push_cast; rfl)) (by omega) (by omega))) ?_
  refine l_v (Ah (v:=(iV ((((i + 1):Nat):Int)))) rfl) ?_
  refine Bj (Asf l21) ?_
  apply Ac
  refine ⟨_,?_,((i + 1)),(rx11_3.set ((a18.house).toNat) ((Fl m i a18.house + a18.grows.high))),rfl,rfl,rfl,rfl,h11_2,h11_7,h11_8,h11_3,rfl,(by omega),(by rw [RX11_3]; exact Afi ha18 gh0_a18 (by omega)),(List.length_set.trans RL11_3),trivial⟩
  omega
 have q14:=of_decide_eq_false b14
 refine Bx ?_
 apply k6
 refine w_q rfl rfl fun K27 k27=>?_
 refine Arv (Afr (i:=0) (f:=(Value.int .i64)) (xs:=rx11_3) ⟨_,Tryz.underlying205,rfl⟩ ⟨_,Ab Tryz.typeInfo205,rfl⟩ h11_3 rfl RL11_3 ?_)
 refine Cx rfl (Acb (i:=1) (f:=(Value.int .i64)) (xs:=(List.replicate 5 (0:Int))) (ys:=rx11_3) ⟨_,Ab Tryz.typeInfo205,rfl⟩ h11_2 rfl (fun _=>rfl) rfl RL11_3 (List.length_replicate) ?_)
 refine l_k k27 ?_
 refine Aj Ghost.drop ?_
 refine Aq ?_
 refine hret _ _ _ _ _ [(.agg (rx11_3.map (Value.int .i64)).toArray)] ⟨(Qh ⟨_,Tryz.underlying205,rfl⟩ ⟨_,Ab Tryz.typeInfo205,rfl⟩ h11_2 (i:=0) rfl (by rw [List.length_map]; exact RL11_3)),trivial⟩ Ghost.drop ?_
 refine ⟨l2,rfl,Abz (v:=(.agg (rx11_3.map (Value.int .i64)).toArray)) rfl (Val.cast ?_ (by have h0:=Aey ok; rw [RX11_3,Aiv (by omega)]; exact Ajn h0.1 h0.2))⟩
 ·rfl
end Go.Proofs.YtphgjjmlnkgghaaGreatDoor

namespace Go.Proofs.YtphgjjmlnkgghaaGreatDoor
open Go
def Apz:ByteArray:=⟨((List.append (List.append [0,1,2,2,3,3,3,3,4,4,4,4,4,4,4,4,5,5,5,5,5,5,5,5,5,5,5,5,5,5,5,5,6,6,6,6,6,6,6,6,6,6,6,6,6,6,6,6,6,6,6,6,6,6,6,6,6,6,6,6,6,6,6,6] [7,7,7,7,7,7,7,7,7,7,7,7,7,7,7,7,7,7,7,7,7,7,7,7,7,7,7,7,7,7,7,7,7,7,7,7,7,7,7,7,7,7,7,7,7,7,7,7,7,7,7,7,7,7,7,7,7,7,7,7,7,7,7,7]) (List.append [8,8,8,8,8,8,8,8,8,8,8,8,8,8,8,8,8,8,8,8,8,8,8,8,8,8,8,8,8,8,8,8,8,8,8,8,8,8,8,8,8,8,8,8,8,8,8,8,8,8,8,8,8,8,8,8,8,8,8,8,8,8,8,8] [8,8,8,8,8,8,8,8,8,8,8,8,8,8,8,8,8,8,8,8,8,8,8,8,8,8,8,8,8,8,8,8,8,8,8,8,8,8,8,8,8,8,8,8,8,8,8,8,8,8,8,8,8,8,8,8,8,8,8,8,8,8,8,8]))).toArray⟩
/-- The bits of a small number. -/
def Ie (x:Nat):Nat:=if x = 0 then 0 else if x < 2 then 1 else if x < 4 then 2 else if x < 8 then 3 else if x < 16 then 4 else if x < 32 then 5 else if x < 64 then 6 else if x < 128 then 7 else 8
theorem Aji {x:Nat} (h:x < 256):Apz[x]? = some (UInt8.ofNat (Ie x)):=by
  have key:(List.range 256).all (fun x=>Apz[x]? == some (UInt8.ofNat (Ie x))) = true:=by decide +kernel
  have:=List.all_eq_true.1 key x (by simpa using h)
  simpa using this
theorem Sk {x:Nat}:Ie x ≤ 8:=by
  unfold Ie; repeat' split
  all_goals omega
theorem Yt {x:Nat}:(UInt8.ofNat (Ie x)).toNat = Ie x:=by
  have:=Sk (x:=x)
  simp [UInt8.toNat_ofNat']; omega
section
variable {P:Program} {ρ:Ro} {e:Env} {ty t t':TypeId} {x y:Operand}
theorem Acf {k k':IntKind} {p z:Int} {d:TypeDesc} (hT:P.underlying t = some d) (hT':P.underlying t' = some (.int k')) (hx:Af e x = .int k p) (hz:k'.wrap p = z):Yld P ρ e (.convert t t' x) ty (.int k' z) :=
  Mt (s:=convert t t' (Af e x)) (fun _ _ _ _=>rfl) fun ρ' σ _=>by
    rw [hx]
    show wpS P ρ' ((underlying t).bind _) σ _
    rw [Ad]
    refine Az hT ?_
    show wpS P ρ' ((underlying t').bind _) σ _
    rw [Ad]
    refine Az hT' ?_
    subst hz
    cases d <;> exact ⟨rfl,rfl⟩
theorem Aed {p q:Nat} (hp:p < 2 ^ 63):Op.intBits .and .u64 p q = pure (.int .u64 ((p &&& q:Nat):Int)):=by
  have h1:p &&& q ≤ p:=Nat.and_le_left
  simp only [Op.intBits]
  congr 2
  have:(BitVec.ofInt IntKind.u64.bits p &&& BitVec.ofInt IntKind.u64.bits q).toNat = p &&& q:=by
    show (BitVec.ofInt 64 p &&& BitVec.ofInt 64 q).toNat = _
    rw [BitVec.toNat_and,BitVec.toNat_ofInt,BitVec.toNat_ofInt]
    have e1:((p:Int) % (2 ^ 64:Nat)).toNat = p:=by omega
    have e2:((q:Int) % (2 ^ 64:Nat)).toNat = q % 2 ^ 64:=by omega
    rw [e1,e2,← Nat.and_two_pow_sub_one_eq_mod,← Nat.and_assoc,Nat.and_comm p q,Nat.and_assoc,Nat.and_two_pow_sub_one_eq_mod,Nat.mod_eq_of_lt (by omega)]
  rw [this]
  show ((p &&& q:Nat):Int) % _ = _
  simp only [IntKind.bits]
  omega
theorem Nv {p q:Nat} (hx:Af e x = .int .u64 p) (hy:Af e y = .int .u64 q) (hp:p < 2 ^ 63):Yld P ρ e (.binOp .and t x y t') ty (.int .u64 ((p &&& q:Nat):Int)) :=
  La hx hy Dh (by simp only [binOp]; rw [if_neg (by simp)]; exact Aed hp)
theorem Ev {p:Int} (h0:0 ≤ p) (h1:p < 18446744073709551616):IntKind.u64.wrap p = p:=by
  show p % _ = _
  simp only [IntKind.bits]
  omega
theorem Anq {p:Int} (h0:0 ≤ p) (h1:p < 256):IntKind.u8.wrap p = p:=by
  show p % _ = _
  simp only [IntKind.bits]
  omega
end
end Go.Proofs.YtphgjjmlnkgghaaGreatDoor

namespace Go.Proofs.YtphgjjmlnkgghaaGreatDoor
set_option maxHeartbeats 1000000
open Go
def Bv (x:Nat):List Nat:=(List.range (Ie x)).filter (Gw x)
theorem Aps {p:Nat→Bool} {i:Nat} (h:p i = true):Bw ((List.range i).filter p) ++ [(i:Int)] = Bw ((List.range (i + 1)).filter p):=by
 rw [List.range_succ,List.filter_append,List.filter_cons,if_pos h]; simp [Bw]
theorem Apr {p:Nat→Bool} {i:Nat} (h:p i = false):Bw ((List.range i).filter p) = Bw ((List.range (i + 1)).filter p):=by
 rw [List.range_succ,List.filter_append,List.filter_cons,if_neg (by simp [h])]; simp [Bw]
theorem Alb {p:Nat→Bool} {i:Nat}:(Bw ((List.range i).filter p)).length ≤ i:=by
 have:=List.length_filter_le p (List.range i)
 simpa [Bw] using this
theorem bitM {x i:Nat}:((((x >>> i) &&& 1:Nat):Int) == 1) = Gw x i:=rfl
set_option maxRecDepth 100000 in
theorem Akr {mn:Bool} {X:Frame→List Frame→Ro→Own→Cy→Prop} {ρ:Ro} {σ:Own} {x:Nat} (hx:x < 256):CallsH (CX mn X) 172 #[(.int .u64 ((x:Int)))] ρ σ (fun w ρ' σ'=>ρ' = ρ∧σ' = σ∧w = (iV (((Ie x:Nat):Int)))):=by
 have hln:=Yt (x:=x)
 have hl8:=Sk (x:=x)
 refine Bh (n:=25) (args:=[(.int .u64 ((x:Int)))]) [2] Tryz.func172 rfl rfl rfl rfl fun Q hret hnor=>?_
 refine w_q rfl rfl fun K1 k1=>?_
 refine l_v (Cp (v:=(iV (0))) rfl) ?_
 refine Ary rfl rfl k1 fun K2 K3 k2 k3=>?_
 refine l_v (Ah (v:=(.int .u64 ((x:Int)))) rfl) ?_
 refine l_v (Uy rfl rfl) ?_
 refine l_k k3 ?_
 refine Cg rfl (decide_eq_false (by omega)) ?_
 refine Al ?_
 apply k2
 refine Asb rfl rfl fun K4 K5 k4 k5=>?_
 refine l_v (Ah (v:=(.int .u64 ((x:Int)))) rfl) ?_
 refine l_v (Uy rfl rfl) ?_
 refine l_k k5 ?_
 refine Cg rfl (decide_eq_false (by omega)) ?_
 refine Al ?_
 apply k4
 refine Asb rfl rfl fun K6 K7 k6 k7=>?_
 refine l_v (Ah (v:=(.int .u64 ((x:Int)))) rfl) ?_
 refine l_v (Uy rfl rfl) ?_
 refine l_k k7 ?_
 refine Cg rfl (decide_eq_false (by omega)) ?_
 refine Al ?_
 apply k6
 refine w_q rfl rfl fun K8 k8=>?_
 refine l_v (Ah (v:=(iV (0))) rfl) ?_
 refine l_v (Ah (v:=(.int .u64 ((x:Int)))) rfl) ?_
 refine l_v (Acf (p:=(x:Int)) (z:=(x:Int)) Tryz.underlying268 Tryz.underlying5 rfl (Anq (by omega) (by omega))) ?_
 refine l_v (Ace x (UInt8.ofNat (Ie x)) Tryz.underlying9 rfl (q:=(x:Int)) rfl rfl (Aji hx)) ?_
 refine l_v (Acf (p:=(((UInt8.ofNat (Ie x)).toNat:Nat):Int)) (z:=(((UInt8.ofNat (Ie x)).toNat:Nat):Int)) Tryz.underlying5 Tryz.underlying3 rfl (Bo rfl (by omega) (by omega))) ?_
 refine l_v (Br rfl rfl (z:=(((0 + (UInt8.ofNat (Ie x)).toNat):Nat):Int)) (Bo (by first | rfl | omega | (push_cast; rfl)) (by omega) (by omega))) ?_
 refine l_v (Cp (v:=(iV ((((0 + (UInt8.ofNat (Ie x)).toNat):Nat):Int)))) rfl) ?_
 refine l_k k8 ?_
 refine Aq ?_
 refine hret _ _ _ ⟨rfl,rfl,Eq.trans (b:=(iV ((((0 + (UInt8.ofNat (Ie x)).toNat):Nat):Int)))) rfl ?_⟩
 rw [Yt,Nat.zero_add]
set_option maxRecDepth 100000 in
theorem Apo {mn:Bool} {X:Frame→List Frame→Ro→Own→Cy→Prop} {ρ:Ro} {σ:Own} {x:Nat} (hx:x < 256):CallsH (CX mn X) 138 #[(.int .u64 ((x:Int)))] ρ σ (fun w ρ' σ'=>ρ' = ρ∧σ' = σ∧w = (iV (((Ie x:Nat):Int)))):=by
 refine Bh (n:=8) (args:=[(.int .u64 ((x:Int)))]) [2] Tryz.func138 rfl rfl rfl rfl fun Q hret hnor=>?_
 refine w_q rfl rfl fun K1 k1=>?_
 refine l_v (Cp (v:=(iV (0))) rfl) ?_
 refine Asa k1 fun K2 k2=>?_
 refine Cg rfl rfl ?_
 refine Al ?_
 apply k2
 refine w_q rfl rfl fun K3 k3=>?_
 refine l_v (Ah (v:=(.int .u64 ((x:Int)))) rfl) ?_
 refine Arv (Bm (Akr (x:=x) (by omega)) Tryz.func172 rfl rfl ⟨rfl,trivial⟩ ?_)
 refine l_v (Cp (v:=(iV ((((Ie x):Nat):Int)))) rfl) ?_
 refine l_k k3 ?_
 refine Aq ?_
 refine hret _ _ _ ⟨rfl,rfl,Eq.trans (b:=(iV ((((Ie x):Nat):Int)))) rfl ?_⟩
 rfl
set_option maxRecDepth 100000 in
theorem Acu {mn:Bool} {X:Frame→List Frame→Ro→Own→Cy→Prop} {ρ:Ro} {σ:Own} {x:Nat} (hx:x < 256):CallsH (CX mn X) 93 #[(.int .u64 ((x:Int)))] ρ σ (fun w ρ' σ'=>Ro.le ρ ρ'∧σ' = σ∧Val ρ' w (Bw (Bv x):List Int)):=by
 have hl8:=Sk (x:=x)
 refine Bh (n:=21) (args:=[(.int .u64 ((x:Int)))]) [2] Tryz.func93 rfl rfl rfl rfl fun Q hret hnor=>?_
 refine w_q rfl rfl fun K1 k1=>?_
 refine l_v (Cp (v:=(.slice none 0 0)) rfl) ?_
 refine Arx rfl rfl k1 fun K2 k2=>?_
 refine l_v (Cp (v:=(.slice none 0 0)) rfl) ?_
 refine Ary rfl rfl k2 fun K3 K4 k3 k4=>?_
 refine l_v (Ah (v:=(.int .u64 ((x:Int)))) rfl) ?_
 refine Arv (Bm (Apo (x:=x) (by omega)) Tryz.func138 rfl rfl ⟨rfl,trivial⟩ ?_)
 refine l_v (Ah (v:=(iV (0))) rfl) ?_
 refine l_k k4 ?_
 refine Ao ?_
 refine Cc (fun mm ee dd ρ' σ'=>∃ (i:Nat) (ov5_3:Value) (og5_3:Own),(Ie x - i) = mm∧[] = dd∧Ro.le ρ ρ'∧(og5_3 ++ σ) = σ'∧ee 0 = (.int .u64 ((x:Int)))∧ee 6 = (iV ((((Ie x):Nat):Int)))∧ee 3 = ov5_3∧ee 7 = (iV ((i:Int)))∧(i ≤ Ie x)∧Grow ρ' 3 ov5_3 (Bw ((List.range i).filter (Gw x))) og5_3∧True) (m:=_) ⟨0,(.slice none 0 0),[],rfl,rfl,Ash,rfl,rfl,rfl,rfl,rfl,(Nat.zero_le _),Hm,trivial⟩ ?_
 rintro m5 e5 _ ρ5 _ ⟨i,ov5_3,og5_3,rfl,rfl,l5,rfl,h5_0,h5_6,h5_3,h5_7,p5_0,OG5_3,_⟩
 refine w_q rfl rfl fun K6 k6=>?_
 refine l_v (Da h5_7 h5_6) ?_
 refine Asa k6 fun K7 k7=>?_
 refine As (t:=decide ((i:Int) < (((Ie x):Nat):Int))) rfl (fun b8=>?_) (fun b8=>?_)
 ·have q8:=of_decide_eq_true b8
  refine Al ?_
  apply k7
  refine Ai fun K9 k9=>?_
  refine Ao ?_
  refine w_q rfl rfl fun K10 k10=>?_
  refine l_v (Ah (v:=(iV ((i:Int)))) h5_7) ?_
  refine l_v (Cp (v:=(iV ((i:Int)))) rfl) ?_
  refine Arx rfl rfl k10 fun K11 k11=>?_
  refine l_v (Ah (v:=(.int .u64 ((x:Int)))) h5_0) ?_
  refine l_v (Ah (v:=(iV ((i:Int)))) rfl) ?_
  refine l_v (Lc (p:=x) (q:=i) rfl rfl rfl (by omega)) ?_
  refine l_v (Nv (p:=(x >>> i)) (q:=1) rfl rfl (Nl (by omega))) ?_
  refine l_v (Ek rfl rfl) ?_
  refine l_k k11 ?_
  refine As (t:=((((x >>> i) &&& 1):Nat):Int) == 1) rfl (fun b12=>?_) (fun b12=>?_)
  ·have hbt13:=bitM.symm.trans b12
   have q12:=Jr b12
   refine Ag rfl rfl ?_
   refine l_v (Ah (v:=ov5_3) h5_3) ?_
   refine l_v (Ah (v:=(iV ((i:Int)))) rfl) ?_
   refine Arv (Bi (α:=Int) (xs:=[(i:Int)]) (vs:=[(iV ((i:Int)))]) Tryz.underlying49 ty3 zr3 rfl (by decide) (Dk (os:=[.tmp 16]) ⟨rfl,trivial⟩) ⟨(Cv.2 ⟨rfl,by constructor <;> omega⟩),trivial⟩ rfl (by decide) fun k14 cs14 R14=>?_)
   have G14:Grow ρ5 3 (.slice (some ⟨k14,0,none⟩) 1 1) ([(i:Int)]:List Int) [(k14,.obj (.cells cs14.toArray 3 (0,0)))]:=Bs R14 rfl (by decide)
   refine Ca G14 fun ρ16 l16 r16=>?_
   replace OG5_3:=Grow.mono l16 OG5_3
   refine Arv (Gc (σ:=σ) (gr:=og5_3) (xs:=Bw ((List.range i).filter (Gw x))) (ys:=([(i:Int)]:List Int)) Tryz.underlying49 Tryz.underlying49 (Ab Tryz.typeInfo3) rfl (Nat.le_of_ble_eq_true rfl) rfl rfl rfl rfl OG5_3 r16 (by have:=Alb (p:=Gw x) (i:=i); simp only [List.length_append,List.length_cons,List.length_nil]; omega) fun v15 gr15 G15=>?_)
   refine l_v (Cp (v:=v15) rfl) ?_
   refine l_k k9 ?_
   refine Ag rfl rfl ?_
   refine l_v (Br h5_7 rfl (z:=(((i + 1):Nat):Int)) (Bo (by first | rfl | omega | (push_cast; rfl)) (by omega) (by omega))) ?_
   refine l_v (Ah (v:=(iV ((((i + 1):Nat):Int)))) rfl) ?_
   apply Ac
   refine ⟨_,?_,((i + 1)),v15,gr15,rfl,rfl,(Asi l5 l16),rfl,h5_0,h5_6,rfl,rfl,(by omega),(Fy (by rw [Aps hbt13]) G15),trivial⟩
   omega
  have hbt17:=bitM.symm.trans b12
  have q12:=Jq b12
  refine Al ?_
  apply k9
  refine Ag rfl rfl ?_
  refine l_v (Br h5_7 rfl (z:=(((i + 1):Nat):Int)) (Bo (by first | rfl | omega | (push_cast; rfl)) (by omega) (by omega))) ?_
  refine l_v (Ah (v:=(iV ((((i + 1):Nat):Int)))) rfl) ?_
  apply Ac
  refine ⟨_,?_,((i + 1)),ov5_3,og5_3,rfl,rfl,l5,rfl,h5_0,h5_6,h5_3,rfl,(by omega),(Fy (by rw [Apr hbt17]) OG5_3),trivial⟩
  omega
 have q8:=of_decide_eq_false b8
 refine Bx ?_
 apply k3
 refine w_q rfl rfl fun K18 k18=>?_
 refine l_v (Ah (v:=ov5_3) h5_3) ?_
 refine l_v (Cp (v:=ov5_3) rfl) ?_
 refine l_k k18 ?_
 refine Hc OG5_3 fun ρ19 l19 r19=>?_
 refine Aq ?_
 refine hret _ _ _ ?_
 refine ⟨(Asi l5 l19),rfl,Abz (v:=ov5_3) rfl (Val.cast ?_ r19)⟩
 ·rw [show i = Ie x by omega]; rfl
end Go.Proofs.YtphgjjmlnkgghaaGreatDoor

namespace Go.Proofs.YtphgjjmlnkgghaaGreatDoor
open Go
theorem Agn {ρ:Ro} {v:Value} {x:Arr5} (h:Val ρ v x):v = .agg (x.l.map (Value.int .i64)).toArray∧x.l.length = 5∧∀ a ∈ x.l,I64 a:=by
  obtain ⟨cs,⟨h1,h2,h3⟩,rfl⟩:=h
  subst h1
  exact ⟨rfl,h2,h3⟩
section
variable {P:Program} {ρ:Ro} {e:Env} {ty t t':TypeId} {x y:Operand}
theorem Ach {v:Value} {a:Arr5} {k:IntKind} {q z:Int} {el:TypeId} (i:Nat) (hT:P.underlying t = some (.array 5 el)) (hE:∃ d,P.underlying el = some d∧Qv d = false) (hz:∃ i,P.info? el = some i∧i.size = 1) (hx:Af e x = v) (hv:Val ρ v a) (hy:Af e y = .int k q) (hq:q = (i:Int)) (hi:i < 5) (hc:a.l[i]? = some z):Yld P ρ e (.index t x y) ty (.int .i64 z) :=
  Mt (s:=Instr.index t (Af e x) (Af e y)) (fun _ _ _ _=>rfl) fun ρ' σ _=>by
  obtain ⟨h1,h2,h3⟩:=Agn hv
  rw [hx,hy,hq,h1]
  show wpS P ρ' ((underlying t).bind _) σ _
  rw [Ad]
  refine Az hT ?_
  show wpS P ρ' (if 0 ≤ (i:Int)∧(i:Int) < (5:Nat) then _ else _) σ _
  rw [if_pos (by omega)]
  show wpS P ρ' ((sizeOf el).bind _) σ _
  rw [Ad]
  refine Dx hz ?_
  show wpS P ρ' ((isAgg el).bind _) σ _
  rw [Ad]
  refine Hi hE ?_
  have e1:((a.l.map (Value.int .i64)).toArray)[(i:Int).toNat * 1]? = some (.int .i64 z):=by simp [hc]
  simp only [e1]
  exact ⟨rfl,rfl⟩
end
theorem Anj {mk x h:Nat}:Cu (mk ||| 1 <<< x) h = (Cu mk h || x == h):=by
  rw [Ez,Ez,Nat.testBit_or,Nat.one_shiftLeft,Nat.testBit_two_pow]
  congr 1
theorem Agq {h:Nat}:Cu 0 h = false:=by rw [Ez]; simp
theorem Alo {mk x:Nat} (h:mk < 32) (hx:x < 5):mk ||| 1 <<< x < 32:=Nat.or_lt_two_pow (n:=5) h (by rw [Nat.one_shiftLeft]; exact Nat.pow_lt_pow_right (by omega) hx)
end Go.Proofs.YtphgjjmlnkgghaaGreatDoor

namespace Go.Proofs.YtphgjjmlnkgghaaGreatDoor
set_option maxHeartbeats 1000000
open Go
theorem Alv {x:Nat} (h:x < 5):1 <<< x < 32:=by rw [Nat.one_shiftLeft]; exact Nat.pow_lt_pow_right (by omega) (show x < 5 from h)
theorem Aiq {ss:List Sale} {s:Sale} {h:Nat}:((ss ++ [s]).any (Gn · h)) = (ss.any (Gn · h) || s.sellers.any (fun x=>x == (h:Int))):=by
 simp [List.any_append,Gn]
theorem Ajj {l:List Int} {k h x:Nat} (hx:l[k]? = some (x:Int)):(l.take (k + 1)).any (fun y=>y == (h:Int)) = ((l.take k).any (fun y=>y == (h:Int)) || x == h):=by
 rw [Agm hx,List.any_append]
 congr 1
 simp only [List.any_cons,List.any_nil,Bool.or_false]
 rw [Bool.eq_iff_iff]; simp only [beq_iff_eq]; omega
set_option maxRecDepth 100000 in
theorem Acw {mn:Bool} {X:Frame→List Frame→Ro→Own→Cy→Prop} {ρ:Ro} {σ:Own} {m:Market} {vg vl:Value} {l:List Nat} (rg:Val ρ vg (⟨m,⟨En m⟩⟩:GMarket)) (rl:Val ρ vl (Bw l)) (ok:MarketOk m) (hl:∀ a ∈ l,a < m.sales.length) (hn:l.length ≤ 40):CallsH (CX mn X) 94 #[vg,vl] ρ σ (fun w ρ' σ'=>ρ' = ρ∧σ' = σ∧w = (iV (Bq m l))):=by
 have hi2:=Fc (l:=l)
 have hh5:=Hn ok
 refine Bh (n:=62) (args:=[vg,vl]) [4] Tryz.func94 rfl rfl rfl rfl fun Q hret hnor=>?_
 refine w_q rfl rfl fun K1 k1=>?_
 refine Arv (Eb (v:=vg) rfl fun k2=>?_)
 refine Bb (a:=(⟨m,⟨En m⟩⟩:GMarket)) rg fun ρ2 l2 r2=>?_
 replace rl:=Asj l2 rl
 refine l_v (Cp (v:=(iV (0))) rfl) ?_
 refine Arx rfl rfl k1 fun K3 k3=>?_
 refine l_v (Cp (v:=(iV (0))) rfl) ?_
 refine l_v (Cp (v:=(iV (0))) rfl) ?_
 refine Ary rfl rfl k3 fun K4 K5 k4 k5=>?_
 refine l_v (Ah (v:=vl) rfl) ?_
 have g6:=Val.len rl
 refine l_v (Ci (el:=3) Tryz.underlying49 rfl rl) ?_
 refine l_v (Ah (v:=(iV (0))) rfl) ?_
 refine l_k k5 ?_
 refine Ao ?_
 refine Cc (fun mm ee dd ρ' σ'=>∃ (i:Nat) (n:Int) (mk:Nat),((Bw l).length - i) = mm∧[] = dd∧ρ2 = ρ'∧σ = σ'∧ee 2 = (.pointer (some ⟨k2,0,none⟩))∧ee 13 = vl∧ee 14 = (iV ((((Bw l).length:Nat):Int)))∧ee 5 = (iV (n))∧ee 6 = (iV ((mk:Int)))∧ee 15 = (iV ((i:Int)))∧(i ≤ (Bw l).length)∧(n = ((Ix m (l.take i)).map Sale.grams).sum)∧(0 ≤ n∧n ≤ 1000000 * (i:Int))∧(mk < 32)∧(∀ h,Cu mk h = (Ix m (l.take i)).any (Gn · h))∧True) (m:=_) ⟨0,0,0,rfl,rfl,rfl,rfl,rfl,rfl,rfl,rfl,rfl,rfl,(Nat.zero_le _),(by simp [Ix]),(by omega),(by omega),(fun h=>by rw [Agq]; simp [Ix]),trivial⟩ ?_
 rintro m7 e7 _ _ _ ⟨i,n,mk,rfl,rfl,rfl,rfl,h7_2,h7_13,h7_14,h7_5,h7_6,h7_15,p7_0,p7_1,p7_2,p7_3,p7_4,_⟩
 refine w_q rfl rfl fun K8 k8=>?_
 refine l_v (Da h7_15 h7_14) ?_
 refine Asa k8 fun K9 k9=>?_
 refine As (t:=decide ((i:Int) < (((Bw l).length:Nat):Int))) rfl (fun b10=>?_) (fun b10=>?_)
 ·have q10:=of_decide_eq_true b10
  refine Al ?_
  apply k9
  refine Ai fun K11 k11=>?_
  refine Ao ?_
  refine w_q rfl rfl fun K12 k12=>?_
  obtain ⟨a14,ha14⟩:=Ed (xs:=Bw l) (i:=i) (by omega)
  obtain ⟨b15,hb15,hz15⟩:=Ts ha14
  subst hz15
  have hq15:=hl b15 (List.mem_of_getElem? hb15)
  refine Arw (Ch i Tryz.underlying49 ty3 h7_13 rl (q:=(i:Int)) h7_15 rfl ha14) fun v13 r13=>?_
  have ⟨g16a,g16b⟩:=At.rng r13
  refine l_v (Bc ty3 rfl r13) ?_
  refine l_v (Cp (v:=(iV ((b15:Int)))) rfl) ?_
  refine Arx rfl rfl k12 fun K17 k17=>?_
  refine l_v (Ah (v:=(iV (n))) h7_5) ?_
  refine Arw (Ay GMarket.f_m Tryz.underlying208 rfl rfl Ln (by decide) h7_2 r2) fun v18 r18=>?_
  refine Arw (Ay Market.f_sales Tryz.underlying36 rfl rfl Qn (by decide) rfl r18) fun v19 r19=>?_
  refine Arw (Ax Qn rfl r19) fun v20 r20=>?_
  refine l_v (Ah (v:=(iV ((b15:Int)))) rfl) ?_
  obtain ⟨a22,ha22⟩:=Ed (xs:=m.sales) (i:=b15) (by omega)
  have gs_a22:=ok.sale _ _ ha22
  refine Arw (Ch b15 Tryz.underlying34 Up rfl r20 (q:=(b15:Int)) rfl rfl ha22) fun v21 r21=>?_
  refine Arw (Ay Sale.f_grams Tryz.underlying146 rfl rfl ty3 (by decide) rfl r21) fun v23 r23=>?_
  have ⟨g24a,g24b⟩:=At.rng r23
  refine l_v (Bc ty3 rfl r23) ?_
  refine l_v (Br rfl rfl (z:=(n + a22.grams)) (Bo (by rfl) (by omega) (by omega))) ?_
  refine l_v (Cp (v:=(iV ((n + a22.grams)))) rfl) ?_
  refine Arx rfl rfl k17 fun K25 k25=>?_
  refine Arw (Ay GMarket.f_m Tryz.underlying208 rfl rfl Ln (by decide) h7_2 r2) fun v26 r26=>?_
  refine Arw (Ay Market.f_sales Tryz.underlying36 rfl rfl Qn (by decide) rfl r26) fun v27 r27=>?_
  refine Arw (Ax Qn rfl r27) fun v28 r28=>?_
  refine l_v (Ah (v:=(iV ((b15:Int)))) rfl) ?_
  refine Arw (Ch b15 Tryz.underlying34 Up rfl r28 (q:=(b15:Int)) rfl rfl ha22) fun v29 r29=>?_
  refine Arw (Ay Sale.f_sellers Tryz.underlying146 rfl rfl Vh (by decide) rfl r29) fun v30 r30=>?_
  refine Arw (Ax Vh rfl r30) fun v31 r31=>?_
  have g32:=Val.len r31
  refine l_v (Ci (el:=3) Tryz.underlying49 rfl r31) ?_
  refine l_v (Ah (v:=(iV (0))) rfl) ?_
  refine l_k k25 ?_
  refine Ao ?_
  refine Cc (fun mm ee dd ρ' σ'=>∃ (k:Nat) (mj:Nat),(a22.sellers.length - k) = mm∧[] = dd∧ρ2 = ρ'∧σ = σ'∧ee 2 = (.pointer (some ⟨k2,0,none⟩))∧ee 5 = (iV ((n + a22.grams)))∧ee 13 = vl∧ee 14 = (iV ((((Bw l).length:Nat):Int)))∧ee 15 = (iV ((i:Int)))∧ee 34 = v31∧ee 35 = (iV (((a22.sellers.length:Nat):Int)))∧ee 6 = (iV ((mj:Int)))∧ee 36 = (iV ((k:Int)))∧(k ≤ a22.sellers.length)∧(mj < 32)∧(∀ h,Cu mj h = ((Ix m (l.take i)).any (Gn · h) || (a22.sellers.take k).any (fun y=>y == (h:Int))))∧True) (m:=_) ⟨0,mk,rfl,rfl,rfl,rfl,h7_2,rfl,h7_13,h7_14,h7_15,rfl,rfl,h7_6,rfl,(Nat.zero_le _),p7_3,(fun h=>by rw [p7_4]; simp),trivial⟩ ?_
  rintro m33 e33 _ _ _ ⟨k,mj,rfl,rfl,rfl,rfl,h33_2,h33_5,h33_13,h33_14,h33_15,h33_34,h33_35,h33_6,h33_36,p33_0,p33_1,p33_2,_⟩
  refine w_q rfl rfl fun K34 k34=>?_
  refine l_v (Da h33_36 h33_35) ?_
  refine Asa k34 fun K35 k35=>?_
  refine As (t:=decide ((k:Int) < ((a22.sellers.length:Nat):Int))) rfl (fun b36=>?_) (fun b36=>?_)
  ·have q36:=of_decide_eq_true b36
   refine Al ?_
   apply k35
   refine Ai fun K37 k37=>?_
   refine Ao ?_
   refine w_q rfl rfl fun K38 k38=>?_
   obtain ⟨a40,ha40⟩:=Ed (xs:=a22.sellers) (i:=k) (by omega)
   have gt_a40:=gs_a22.2.2.1 _ _ ha40
   obtain ⟨x41,hx41⟩:∃ x:Nat,a40 = (x:Int):=⟨a40.toNat,by omega⟩
   subst hx41
   have hsl41:=Alv (x:=x41) (by omega)
   have hsm41:(0:Int) ≤ ((1 <<< x41:Nat):Int):=Int.natCast_nonneg _
   refine Arw (Ch k Tryz.underlying49 ty3 h33_34 r31 (q:=(k:Int)) h33_36 rfl ha40) fun v39 r39=>?_
   have ⟨g42a,g42b⟩:=At.rng r39
   refine l_v (Bc ty3 rfl r39) ?_
   refine l_v (Cp (v:=(iV ((x41:Int)))) rfl) ?_
   refine l_k k38 ?_
   refine Ag rfl rfl ?_
   refine l_v (Ah (v:=(iV ((mj:Int)))) h33_6) ?_
   refine l_v (Ah (v:=(iV ((x41:Int)))) rfl) ?_
   refine l_v (Md (p:=1) (q:=x41) rfl rfl rfl (by omega) (z:=(((1 <<< x41):Nat):Int)) (Bo rfl (by omega) (by omega))) ?_
   refine l_v (Acj (p:=mj) (q:=(1 <<< x41)) rfl rfl (by omega) (by omega)) ?_
   refine l_v (Cp (v:=(iV ((((mj ||| (1 <<< x41)):Nat):Int)))) rfl) ?_
   refine l_k k37 ?_
   refine Ag rfl rfl ?_
   refine l_v (Br h33_36 rfl (z:=(((k + 1):Nat):Int)) (Bo (by first | rfl | omega | (push_cast; rfl)) (by omega) (by omega))) ?_
   refine l_v (Ah (v:=(iV ((((k + 1):Nat):Int)))) rfl) ?_
   apply Ac
   refine ⟨_,?_,((k + 1)),((mj ||| (1 <<< x41))),rfl,rfl,rfl,rfl,h33_2,h33_5,h33_13,h33_14,h33_15,h33_34,h33_35,rfl,rfl,(by omega),(Alo p33_1 (by omega)),(fun h=>by rw [Anj,p33_2,Ajj ha40,Bool.or_assoc]),trivial⟩
   omega
  have q36:=of_decide_eq_false b36
  refine Bx ?_
  apply k11
  refine Ag rfl rfl ?_
  refine l_v (Br h33_15 rfl (z:=(((i + 1):Nat):Int)) (Bo (by first | rfl | omega | (push_cast; rfl)) (by omega) (by omega))) ?_
  refine l_v (Ah (v:=(iV ((((i + 1):Nat):Int)))) rfl) ?_
  apply Ac
  refine ⟨_,?_,((i + 1)),((n + a22.grams)),(mj),rfl,rfl,rfl,rfl,h33_2,h33_13,h33_14,h33_5,h33_6,rfl,(by omega),(by rw [Vv hb15 ha22,Afa,← p7_1]),(by constructor <;> push_cast <;> omega),p33_1,(fun h=>by rw [Vv hb15 ha22,Aiq,p33_2,show k = a22.sellers.length by omega,List.take_length]),trivial⟩
  omega
 have q10:=of_decide_eq_false b10
 refine Bx ?_
 apply k4
 refine Asb rfl rfl fun K43 K44 k43 k44=>?_
 refine Arw (Ay GMarket.f_gives Tryz.underlying208 rfl rfl Ads (by decide) h7_2 r2) fun v45 r45=>?_
 refine Arw (Ax Ads rfl r45) fun v46 r46=>?_
 refine l_v (Ah (v:=(iV (0))) rfl) ?_
 refine l_k k44 ?_
 refine Ao ?_
 have hd:Ix m (l.take i) = Ix m l:=by rw [List.take_of_length_le (by omega)]
 refine Cc (fun mm ee dd ρ' σ'=>∃ (h:Nat) (n2:Int),(5 - h) = mm∧[] = dd∧ρ2 = ρ'∧σ = σ'∧ee 6 = (iV ((mk:Int)))∧ee 47 = v46∧ee 5 = (iV (n2))∧ee 48 = (iV ((h:Int)))∧(h ≤ 5)∧(n2 = ((Ix m l).map Sale.grams).sum - Df h (To m (Ix m l)))∧(n - 6000000 * (h:Int) ≤ n2∧n2 ≤ n)∧True) (m:=_) ⟨0,n,rfl,rfl,rfl,rfl,h7_6,rfl,h7_5,rfl,(Nat.zero_le _),(by rw [p7_1,hd]; simp [Df]),(by omega),trivial⟩ ?_
 rintro m47 e47 _ _ _ ⟨h,n2,rfl,rfl,rfl,rfl,h47_6,h47_47,h47_5,h47_48,p47_0,p47_1,p47_2,_⟩
 refine w_q rfl rfl fun K48 k48=>?_
 refine l_v (Da h47_48 rfl) ?_
 refine Asa k48 fun K49 k49=>?_
 refine As (t:=decide ((h:Int) < 5)) rfl (fun b50=>?_) (fun b50=>?_)
 ·have q50:=of_decide_eq_true b50
  refine Al ?_
  apply k49
  refine Ai fun K51 k51=>?_
  refine Ao ?_
  refine w_q rfl rfl fun K52 k52=>?_
  refine l_v (Ah (v:=(iV ((h:Int)))) h47_48) ?_
  have hgv53:=Tp ok (h:Int)
  refine l_v (Ach (z:=Em m (h:Int)) h Tryz.underlying205 ⟨_,Tryz.underlying3,rfl⟩ ⟨_,Ab Tryz.typeInfo3,rfl⟩ h47_47 r46 h47_48 rfl (by omega) (by simp only [En]; rw [List.getElem?_map,List.getElem?_range (by omega)]; rfl)) ?_
  refine l_v (Cp (v:=(iV ((h:Int)))) rfl) ?_
  refine l_v (Cp (v:=(iV (Em m (h:Int)))) rfl) ?_
  refine Arx rfl rfl k52 fun K54 k54=>?_
  refine l_v (Ah (v:=(iV ((mk:Int)))) h47_6) ?_
  refine l_v (Ah (v:=(iV ((h:Int)))) rfl) ?_
  refine l_v (Lc (p:=mk) (q:=h) rfl rfl rfl (by omega)) ?_
  refine l_v (Qs (p:=(mk >>> h)) (q:=1) rfl rfl (Nl (by omega))) ?_
  refine l_v (Ek rfl rfl) ?_
  refine l_k k54 ?_
  refine As (t:=((((mk >>> h) &&& 1):Nat):Int) == 1) rfl (fun b55=>?_) (fun b55=>?_)
  ·have hbt56:=bitA.symm.trans b55
   have q55:=Jr b55
   refine Ag rfl rfl ?_
   refine l_v (Ah (v:=(iV (n2))) h47_5) ?_
   refine l_v (Ah (v:=(iV (Em m (h:Int)))) rfl) ?_
   refine l_v (Ou rfl rfl (z:=(n2 - Em m (h:Int))) (Bo (by rfl) (by omega) (by omega))) ?_
   refine l_v (Cp (v:=(iV ((n2 - Em m (h:Int))))) rfl) ?_
   refine l_k k51 ?_
   refine Ag rfl rfl ?_
   refine l_v (Br h47_48 rfl (z:=(((h + 1):Nat):Int)) (Bo (by first | rfl | omega | (push_cast; rfl)) (by omega) (by omega))) ?_
   refine l_v (Ah (v:=(iV ((((h + 1):Nat):Int)))) rfl) ?_
   apply Ac
   refine ⟨_,?_,((h + 1)),((n2 - Em m (h:Int))),rfl,rfl,rfl,rfl,h47_6,h47_47,rfl,rfl,(by omega),(by simp only [Df]; rw [show To m (Ix m l) h = Em m (h:Int) from by unfold To; rw [← hd,← p7_4,hbt56]; rfl]; omega),(by constructor <;> push_cast <;> omega),trivial⟩
   omega
  have hbt57:=bitA.symm.trans b55
  have q55:=Jq b55
  refine Al ?_
  apply k51
  refine Ag rfl rfl ?_
  refine l_v (Br h47_48 rfl (z:=(((h + 1):Nat):Int)) (Bo (by first | rfl | omega | (push_cast; rfl)) (by omega) (by omega))) ?_
  refine l_v (Ah (v:=(iV ((((h + 1):Nat):Int)))) rfl) ?_
  apply Ac
  refine ⟨_,?_,((h + 1)),(n2),rfl,rfl,rfl,rfl,h47_6,h47_47,h47_5,rfl,(by omega),(by simp only [Df]; rw [show To m (Ix m l) h = 0 from by unfold To; rw [← hd,← p7_4,hbt57]; rfl]; omega),(by constructor <;> push_cast <;> omega),trivial⟩
  omega
 have q50:=of_decide_eq_false b50
 refine Bx ?_
 apply k43
 refine w_q rfl rfl fun K58 k58=>?_
 refine l_v (Ah (v:=(iV (n2))) h47_5) ?_
 refine l_v (Cp (v:=(iV (n2))) rfl) ?_
 refine l_k k58 ?_
 refine Aj (Asf l2) ?_
 refine Aq ?_
 refine hret _ _ _ ⟨rfl,rfl,Eq.trans (b:=(iV (n2))) rfl ?_⟩
 rw [Bq,Ue,p47_1,show h = 5 by omega]; rfl
end Go.Proofs.YtphgjjmlnkgghaaGreatDoor

namespace Go.Proofs.YtphgjjmlnkgghaaGreatDoor
open Go
set_option maxRecDepth 100000 in
theorem Rt {ρ:Ro} {e:Env} {ty:TypeId} {x y:Operand} {vm vg:Value} {m:Market} {g:Arr5} (hx:Af e x = vm) (hm:Val ρ vm m) (hy:Af e y = vg) (hg:Val ρ vg g):∃ w,Val ρ w (⟨m,g⟩:GMarket)∧Yld Tryz.prog ρ e (.build 208 [(0,x),(1,y)].toArray) ty w:=by
  obtain ⟨cm,hm1,rfl⟩:=hm
  obtain ⟨cg,hg1,rfl⟩:=hg
  have lm:cm.length = 4:=Dat.len hm1
  have lg:cg.length = 5:=Dat.len hg1
  refine ⟨.agg (cm ++ cg).toArray,⟨cm ++ cg,⟨cm,cg,rfl,hm1,hg1⟩,rfl⟩,?_⟩
  obtain ⟨a0,a1,a2,a3,rfl⟩:∃ a b c d,cm = [a,b,c,d]:=by
    match cm,lm with
    | [a,b,c,d],_=>exact ⟨a,b,c,d,rfl⟩
  obtain ⟨b0,b1,b2,b3,b4,rfl⟩:∃ a b c d e,cg = [a,b,c,d,e]:=by
    match cg,lg with
    | [a,b,c,d,e],_=>exact ⟨a,b,c,d,e,rfl⟩
  exact Dn (ns:=[4,5]) (vs:=[(0,.agg #[a0,a1,a2,a3]),(1,.agg #[b0,b1,b2,b3,b4])]) (zc:=Akc) (cs:=[a0,a1,a2,a3,b0,b1,b2,b3,b4]) Tryz.underlying208 Ake rfl ⟨⟨_,Ab Tryz.typeInfo36,rfl⟩,⟨_,Ab Tryz.typeInfo205,rfl⟩,trivial⟩ (EvB.map ⟨⟨rfl,hx⟩,⟨rfl,hy⟩,trivial⟩) ((Be (cs:=[a0,a1,a2,a3]) rfl rfl (Nat.le_of_ble_eq_true rfl)).trans ((Be (cs:=[b0,b1,b2,b3,b4]) rfl rfl (Nat.le_of_ble_eq_true rfl)).trans rfl))
end Go.Proofs.YtphgjjmlnkgghaaGreatDoor

namespace Go.Proofs.YtphgjjmlnkgghaaGreatDoor
open Go
theorem Adn {x n:Nat} (h:x < 2 ^ n) (h8:n ≤ 8):Bv x = (List.range n).filter (Gw x):=by
  have hx:x < 256:=Nat.lt_of_lt_of_le h (Nat.pow_le_pow_right (by omega) h8:2 ^ n ≤ 2 ^ 8)
  have key:∀ n:Nat,n ≤ 8→(List.range 256).all (fun x=>!decide (x < 2 ^ n) || (Bv x == (List.range n).filter (Gw x))) = true:=by
    have k2:(List.range 9).all (fun n=>(List.range 256).all (fun x=>!decide (x < 2 ^ n) || (Bv x == (List.range n).filter (Gw x)))) = true:=by decide +kernel
    intro n hn
    exact List.all_eq_true.1 k2 n (by simp; omega)
  have:=List.all_eq_true.1 (key n h8) x (by simpa using hx)
  simpa [h] using this
theorem Ui {x:Nat}:(Bv x).length ≤ 8:=by
  have h1:=List.length_filter_le (Gw x) (List.range (Ie x))
  have h2:=Sk (x:=x)
  rw [List.length_range] at h1
  unfold Bv; omega
theorem Ado {x n:Nat} (h:x < 2 ^ n) (h8:n ≤ 8):∀ a ∈ Bv x,a < n:=by
  rw [Adn h h8]
  intro a ha
  simpa using (List.mem_filter.1 ha).1
theorem Ce:∀ {a b:List Nat},Gz (Bw a) (Bw b) < 0↔a < b
  | [],[]=>by simp [Bw,Gz]
  | [],y :: ys=>by simp [Bw,Gz]
  | x :: xs,[]=>by simp [Bw,Gz]
  | x :: xs,y :: ys=>by
    have ih:=@Ce xs ys
    show (if Iu (Int.ofNat x) (Int.ofNat y) ≠ 0 then Iu (Int.ofNat x) (Int.ofNat y) else Gz (Bw xs) (Bw ys)) < 0↔_
    rw [List.cons_lt_cons_iff]
    by_cases hxy:x = y
    · subst hxy
      rw [if_neg (by simp [Wz]),ih]
      simp
    · have hne:Iu (Int.ofNat x) (Int.ofNat y) ≠ 0:=fun h=>hxy (Int.ofNat.inj (Wz.1 h))
      rw [if_pos hne]
      unfold Iu
      split
      · rename_i h; simp at h; simp [h]
      · rename_i h; simp at h
        rw [if_pos (by simp; omega)]
        simp; omega
def Cj (m:Market) (x:Nat):List Nat:=Sz (Bq m) ((List.range x).map Bv) []
theorem Na {m:Market} {x:Nat}:Cj m (x + 1) = if Bu (Bq m) (Bv x) (Cj m x) then Bv x else Cj m x:=by
  unfold Cj
  rw [List.range_succ,List.map_append]
  exact Aau
theorem Me {m:Market} (h8:m.sales.length ≤ 8):Cj m (2 ^ m.sales.length) = Acr m:=by
  unfold Cj Acr Zg
  congr 1
  apply List.map_congr_left
  intro x hx
  exact Adn (by simpa using hx) h8
theorem Dz {m:Market} {x:Nat} (h:Bu (Bq m) (Bv x) (Cj m x)):Cj m (x + 1) = Bv x:=by rw [Na,if_pos h]
theorem Dy {m:Market} {x:Nat} (h:¬ Bu (Bq m) (Bv x) (Cj m x)):Cj m (x + 1) = Cj m x:=by rw [Na,if_neg h]
theorem Ox {m:Market}:∀ {x:Nat},(Cj m x).length ≤ 8
  | 0=>by simp [Cj,Sz]
  | x + 1=>by rw [Na]; split; exact Ui; exact Ox
end Go.Proofs.YtphgjjmlnkgghaaGreatDoor

namespace Go.Proofs.YtphgjjmlnkgghaaGreatDoor
set_option maxHeartbeats 1000000
open Go
set_option maxHeartbeats 1000000 in
set_option maxRecDepth 100000 in
theorem Aeh {mn:Bool} {X:Frame→List Frame→Ro→Own→Cy→Prop} {ρ:Ro} {σ:Own} {m:Market} {vm:Value} (rm:Val ρ vm m):CallsH (CX mn X) 38 #[vm] ρ σ (fun w ρ' σ'=>Ro.le ρ ρ'∧σ' = σ∧∃ v0,w = (.tuple #[(iV (Ahr m)),v0,(iV (Cf m))])∧Val ρ' v0 (Ahs m:List Int)):=by
 refine Bh (n:=66) (args:=[vm]) [2,3,4] Tryz.func38 rfl rfl rfl rfl fun Q hret hnor=>?_
 refine w_q rfl rfl fun K1 k1=>?_
 refine Arv (Eb (v:=vm) rfl fun k2=>?_)
 refine Bb (a:=m) rm fun ρ2 l2 r2=>?_
 refine l_v (Cp (v:=(iV (0))) rfl) ?_
 refine l_v (Cp (v:=(.slice none 0 0)) rfl) ?_
 refine l_v (Cp (v:=(iV (0))) rfl) ?_
 refine Ary rfl rfl k1 fun K3 K4 k3 k4=>?_
 refine Arw (Ax Ln rfl r2) fun v5 r5=>?_
 refine Arv (Bm (Js r5) Tryz.func91 rfl rfl ⟨rfl,trivial⟩ ?_)
 refine l_v (Cp (v:=(iV (Cf m))) rfl) ?_
 refine Arx rfl rfl k4 fun K6 k6=>?_
 refine l_v (Ah (v:=(iV (Cf m))) rfl) ?_
 refine l_v (Dg rfl rfl) ?_
 refine l_k k6 ?_
 refine As (t:=Cf m != 0) rfl (fun b7=>?_) (fun b7=>?_)
 ·have q7:=Ls b7
  refine w_q rfl rfl fun K8 k8=>?_
  refine l_v (Ah (v:=(iV (Cf m))) rfl) ?_
  refine l_v (Cp (v:=(iV (0))) rfl) ?_
  refine l_v (Cp (v:=(.slice none 0 0)) rfl) ?_
  refine l_v (Cp (v:=(iV (Cf m))) rfl) ?_
  refine l_k k8 ?_
  refine Aq ?_
  refine hret _ _ _ ?_
  refine ⟨l2,rfl,(.slice none 0 0),Eq.trans (b:=(.tuple #[(iV (0)),(.slice none 0 0),(iV (Cf m))])) (Mp (r:=2) (r':=3) (rs:=[4]) (v:=(iV (0))) (v':=(.slice none 0 0)) (vs:=[(iV (Cf m))]) ⟨rfl,rfl,rfl,trivial⟩) ?_,Val.cast ?_ Gx⟩
  ·rw [Ahr,if_neg q7]
  ·rw [Ahs,if_neg q7]
 have hm0:=Jh b7
 have ok:=Rg hm0
 have hn8:=ok.nsales
 have hpw:2 ^ m.sales.length ≤ 256:=(Nat.pow_le_pow_right (by omega) hn8:2 ^ m.sales.length ≤ 2 ^ 8)
 have hsh:1 <<< m.sales.length = 2 ^ m.sales.length:=Nat.one_shiftLeft _
 have hps:(0:Int) ≤ ((1 <<< m.sales.length:Nat):Int):=Int.natCast_nonneg _
 have q7:=Jh b7
 refine Al ?_
 apply k3
 refine Ai fun K9 k9=>?_
 refine Dc [0,1,2,3,4,5] (by kernel_rfl) rfl rfl ?_
 refine Cd (i:=0) [o1,o0,o0,o0,o0,o0] rfl (by kernel_rfl) rfl Ash rfl (Ax Ln rfl r2) fun v10 r10=>?_
 refine Cd (i:=1) [o1,o1,o0,o0,o0,o0] rfl (by kernel_rfl) rfl Ash rfl (Ax Ln rfl r2) fun v11 r11=>?_
 refine Acq (i:=2) (j:=4) [o1,o1,o1,o0,o0,o0] [o1,o1,o0,o0,o1,o0] rfl rfl (by kernel_rfl) rfl rfl rfl rfl ?_ ?_
 ·refine Cm (vs:=[v11]) (Td r11 ok) Tryz.func92 rfl rfl ⟨rfl,trivial⟩ fun v12 ρ12 σ12 hc12=>?_
  obtain ⟨l12,s12,r12⟩:=hc12
  replace s12:=s12.symm; subst s12
  replace r2:=At.mono l12 r2
  replace r10:=Asj l12 r10
  refine ⟨l12,?_⟩
  refine Pm (by kernel_rfl) l12 Ash ?_
  refine Cd (i:=3) [o1,o1,o1,o1,o0,o0] rfl (by kernel_rfl) rfl Ash rfl (Rt rfl r10 rfl r12) fun v13 r13=>?_
  refine Dj (i:=4) Amh rfl (by kernel_rfl) rfl rfl (Ct Ake fun k14=>⟨Ash,?_⟩)
  refine Fg (i:=5) Ami rfl (by kernel_rfl) rfl rfl (Dv (v:=v13) (a:=(⟨m,⟨En m⟩⟩:GMarket)) (c:=Akc) Wk rfl rfl r13 rfl ⟨Ash,?_⟩)
  refine Ec rfl ?_
  apply k9
  refine Nt (a:=(⟨m,⟨En m⟩⟩:GMarket)) r13 fun ρ15 l15 r15=>?_
  replace r2:=At.mono l15 r2
  refine Asb rfl rfl fun K16 K17 k16 k17=>?_
  refine Arw (Ay Market.f_sales Tryz.underlying36 rfl rfl Qn (by decide) rfl r2) fun v18 r18=>?_
  refine Arw (Ax Qn rfl r18) fun v19 r19=>?_
  have g20:=Val.len r19
  refine l_v (Ci (el:=146) Tryz.underlying34 rfl r19) ?_
  refine l_v (Md (p:=1) (q:=m.sales.length) rfl rfl rfl (by omega) (z:=(((1 <<< m.sales.length):Nat):Int)) (Ev (by omega) (by omega))) ?_
  refine l_v (Ah (v:=(.int .u64 (0))) rfl) ?_
  refine l_k k17 ?_
  refine Ao ?_
  refine Cc (fun mm ee dd ρ' σ'=>∃ (x:Nat) (g:Int) (vv21_3:Value),(1 <<< m.sales.length - x) = mm∧[] = dd∧Ro.le ρ15 ρ'∧σ = σ'∧ee 6 = (.pointer (some ⟨k14,0,none⟩))∧ee 23 = (.int .u64 ((((1 <<< m.sales.length):Nat):Int)))∧ee 2 = (iV (g))∧ee 3 = vv21_3∧ee 24 = (.int .u64 ((x:Int)))∧(x ≤ 1 <<< m.sales.length)∧(g = Bq m (Cj m x))∧Val ρ' vv21_3 (Bw (Cj m x):List Int)∧True) (m:=_) ⟨0,0,(.slice none 0 0),rfl,rfl,Ash,rfl,rfl,rfl,rfl,rfl,rfl,(Nat.zero_le _),(by rw [show Cj m 0 = [] from rfl]; exact (Ri ok).symm),(Val.cast (rfl) Gx),trivial⟩ ?_
  rintro m21 e21 _ ρ21 _ ⟨x,g,vv21_3,rfl,rfl,l21,rfl,h21_6,h21_23,h21_2,h21_3,h21_24,p21_0,p21_1,VV21_3,_⟩
  replace r15:=At.mono l21 r15
  have hi1:=Fc (l:=Bv x)
  have hi2:=Fc (l:=Cj m x)
  have hbl:=Ox (m:=m) (x:=x)
  have hsl:=Ui (x:=x)
  refine w_q rfl rfl fun K22 k22=>?_
  refine l_v (Da h21_24 h21_23) ?_
  refine Asa k22 fun K23 k23=>?_
  refine As (t:=decide ((x:Int) < (((1 <<< m.sales.length):Nat):Int))) rfl (fun b24=>?_) (fun b24=>?_)
  ·have q24:=of_decide_eq_true b24
   refine Al ?_
   apply k23
   refine Ai fun K25 k25=>?_
   refine Ao ?_
   refine w_q rfl rfl fun K26 k26=>?_
   refine l_v (Ah (v:=(.int .u64 ((x:Int)))) h21_24) ?_
   refine l_v (Cp (v:=(.int .u64 ((x:Int)))) rfl) ?_
   refine Arx rfl rfl k26 fun K27 k27=>?_
   refine l_v (Ah (v:=(.int .u64 ((x:Int)))) rfl) ?_
   refine Arv (Cm (vs:=[(.int .u64 ((x:Int)))]) (Acu (x:=x) (by omega)) Tryz.func93 rfl rfl ⟨rfl,trivial⟩ fun v28 ρ28 σ28 hc28=>?_)
   obtain ⟨l28,s28,r28⟩:=hc28
   replace s28:=s28.symm; subst s28
   replace r15:=At.mono l28 r15
   replace VV21_3:=Asj l28 VV21_3
   refine l_v (Cp (v:=v28) rfl) ?_
   refine Arx rfl rfl k27 fun K29 k29=>?_
   refine Arw (Ax Wk h21_6 r15) fun v30 r30=>?_
   refine l_v (Ah (v:=v28) rfl) ?_
   refine Arv (Bm (Acw (l:=Bv x) r30 r28 ok (Ado (by omega) hn8) (by omega)) Tryz.func94 rfl rfl ⟨rfl,rfl,trivial⟩ ?_)
   refine l_v (Cp (v:=(iV (Bq m (Bv x)))) rfl) ?_
   refine Asa k29 fun K31 k31=>?_
   have kj31:∀  (ee:Env),(ee 2 = (iV (g)))∧(ee 3 = vv21_3)∧(ee 6 = (.pointer (some ⟨k14,0,none⟩)))∧(ee 8 = v28)∧(ee 9 = (iV (Bq m (Bv x))))∧(ee 23 = (.int .u64 ((((1 <<< m.sales.length):Nat):Int))))∧(ee 24 = (.int .u64 ((x:Int))))∧(ee 10 = (.bool (decide (Cr (Bv x) (Cj m x)))))∧True→K31 ee ([]) ρ28 σ:=by
    rintro e31 ⟨h31_2,h31_3,h31_6,h31_8,h31_9,h31_23,h31_24,h31_10,_⟩
    apply k31
    refine Ai fun K32 k32=>?_
    have kj32:∀  (ee:Env),(ee 2 = (iV (g)))∧(ee 3 = vv21_3)∧(ee 6 = (.pointer (some ⟨k14,0,none⟩)))∧(ee 8 = v28)∧(ee 9 = (iV (Bq m (Bv x))))∧(ee 23 = (.int .u64 ((((1 <<< m.sales.length):Nat):Int))))∧(ee 24 = (.int .u64 ((x:Int))))∧(ee 60 = (.bool (decide (Bu (Bq m) (Bv x) (Cj m x)))))∧True→K32 ee ([]) ρ28 σ:=by
     rintro e32 ⟨h32_2,h32_3,h32_6,h32_8,h32_9,h32_23,h32_24,h32_60,_⟩
     apply k32
     refine As (t:=decide (Bu (Bq m) (Bv x) (Cj m x))) h32_60 (fun b33=>?_) (fun b33=>?_)
     ·have q33:=of_decide_eq_true b33
      refine Ag rfl rfl ?_
      refine l_v (Ah (v:=(iV (Bq m (Bv x)))) h32_9) ?_
      refine l_v (Ah (v:=v28) h32_8) ?_
      refine l_v (Cp (v:=(iV (Bq m (Bv x)))) rfl) ?_
      refine l_v (Cp (v:=v28) rfl) ?_
      refine l_k k25 ?_
      refine Ag rfl rfl ?_
      refine l_v (Br h32_24 rfl (z:=(((x + 1):Nat):Int)) ((Ev (by omega) (by omega)).trans (by push_cast; rfl))) ?_
      refine l_v (Ah (v:=(.int .u64 ((((x + 1):Nat):Int)))) rfl) ?_
      apply Ac
      refine ⟨_,?_,((x + 1)),(Bq m (Bv x)),v28,rfl,rfl,(Asi l21 l28),rfl,h32_6,h32_23,rfl,rfl,rfl,(by omega),(by rw [Dz q33]),(Val.cast (by rw [Dz q33]) r28),trivial⟩
      omega
     have q33:=of_decide_eq_false b33
     refine Al ?_
     apply k25
     refine Ag rfl rfl ?_
     refine l_v (Br h32_24 rfl (z:=(((x + 1):Nat):Int)) ((Ev (by omega) (by omega)).trans (by push_cast; rfl))) ?_
     refine l_v (Ah (v:=(.int .u64 ((((x + 1):Nat):Int)))) rfl) ?_
     apply Ac
     refine ⟨_,?_,((x + 1)),(g),vv21_3,rfl,rfl,(Asi l21 l28),rfl,h32_6,h32_23,h32_2,h32_3,rfl,(by omega),(by rw [Dy q33]; exact p21_1),(Val.cast (by rw [Dy q33]) VV21_3),trivial⟩
     omega
    refine Ag rfl rfl ?_
    refine l_v (Ah (v:=(iV (Bq m (Bv x)))) h31_9) ?_
    refine l_v (Ah (v:=(iV (g))) h31_2) ?_
    refine l_v (Gl rfl rfl) ?_
    refine l_v (Ah (v:=(.bool (decide (Bq m (Bv x) > g)))) rfl) ?_
    refine Cn (decide (Bq m (Bv x) > g)) (fun b34=>?_) (fun b34=>?_)
    ·have q34:=of_decide_eq_true b34
     refine Ap (Bl rfl rfl rfl b34) ?_
     refine Ap (Bl rfl rfl rfl b34) ?_
     refine Ap (Bl rfl rfl rfl b34) ?_
     refine Ap (Bl rfl rfl rfl b34) ?_
     refine Ap (Jf rfl rfl rfl) ?_
     refine Ap (Bl rfl rfl rfl b34) ?_
     refine l_v (Bt rfl b34 (v:=(.bool (true))) rfl) ?_
     apply Ac
     refine kj32 _ ?_
     exact ⟨h31_2,h31_3,h31_6,h31_8,h31_9,h31_23,h31_24,(rfl.trans ((congrArg Value.bool (decide_eq_true (by unfold Bu; omega)).symm))),trivial⟩
    have q34:=of_decide_eq_false b34
    refine Aa (Ar rfl rfl rfl b34) (Ah (v:=(iV (Bq m (Bv x)))) h31_9) ?_
    refine Aa (Ar rfl rfl rfl b34) (Ah (v:=(iV (g))) h31_2) ?_
    refine Aa (Ar rfl rfl rfl b34) (Ek rfl rfl) ?_
    refine l_M (.bool (Bq m (Bv x) == g)) (Ar rfl rfl rfl b34) rfl ?_
    refine Cn (Bq m (Bv x) == g) (fun b35=>?_) (fun b35=>?_)
    ·have q35:=Jr b35
     refine Aa (Ar rfl rfl rfl b35) (Ah (v:=(.bool (decide (Cr (Bv x) (Cj m x))))) h31_10) ?_
     refine Aa (Ar rfl rfl rfl b34) (Bt rfl b35 (v:=(.bool (decide (Cr (Bv x) (Cj m x))))) rfl) ?_
     refine l_v (Bn rfl b34 (v:=(.bool (decide (Cr (Bv x) (Cj m x))))) rfl) ?_
     apply Ac
     refine kj32 _ ?_
     exact ⟨h31_2,h31_3,h31_6,h31_8,h31_9,h31_23,h31_24,(rfl.trans ((congrArg Value.bool (decide_eq_decide.2 ⟨fun h=>Or.inr ⟨by omega,h⟩,fun h=>h.elim (fun h=>absurd h (by omega)) (·.2)⟩)))),trivial⟩
    have q35:=Jq b35
    refine Ap (Bl rfl rfl rfl b35) ?_
    refine Aa (Ar rfl rfl rfl b34) (Bn rfl b35 (v:=(.bool (false))) rfl) ?_
    refine l_v (Bn rfl b34 (v:=(.bool (false))) rfl) ?_
    apply Ac
    refine kj32 _ ?_
    exact ⟨h31_2,h31_3,h31_6,h31_8,h31_9,h31_23,h31_24,(rfl.trans ((congrArg Value.bool (decide_eq_false (by unfold Bu; omega)).symm))),trivial⟩
   refine Ag rfl rfl ?_
   refine l_v (Ah (v:=v28) rfl) ?_
   have g36:=Val.len r28
   refine l_v (Ci (el:=3) Tryz.underlying49 rfl r28) ?_
   refine l_v (Ah (v:=vv21_3) h21_3) ?_
   have g37:=Val.len VV21_3
   refine l_v (Ci (el:=3) Tryz.underlying49 rfl VV21_3) ?_
   refine l_v (Da rfl rfl) ?_
   refine l_v (Ah (v:=(.bool (decide ((((Bw (Bv x)).length:Nat):Int) < (((Bw (Cj m x)).length:Nat):Int))))) rfl) ?_
   refine Cn (decide ((((Bw (Bv x)).length:Nat):Int) < (((Bw (Cj m x)).length:Nat):Int))) (fun b38=>?_) (fun b38=>?_)
   ·have q38:=of_decide_eq_true b38
    refine Ap (Bl rfl rfl rfl b38) ?_
    refine Ap (Bl rfl rfl rfl b38) ?_
    refine Ap (Bl rfl rfl rfl b38) ?_
    refine Ap (Bl rfl rfl rfl b38) ?_
    refine Ap (Bl rfl rfl rfl b38) ?_
    refine Ap (Bl rfl rfl rfl b38) ?_
    refine Ap (Jf rfl rfl rfl) ?_
    refine Ap (Jf rfl rfl rfl) ?_
    refine Ap (Jf rfl rfl rfl) ?_
    refine Ap (Jf rfl rfl rfl) ?_
    refine Ap (Bl rfl rfl rfl b38) ?_
    refine l_v (Bt rfl b38 (v:=(.bool (true))) rfl) ?_
    refine l_v (Cp (v:=(.bool (true))) rfl) ?_
    apply Ac
    refine kj31 _ ?_
    exact ⟨h21_2,h21_3,h21_6,rfl,rfl,h21_23,h21_24,(rfl.trans ((congrArg Value.bool (decide_eq_true (by unfold Cr; rw [← Ce]; omega)).symm))),trivial⟩
   have q38:=of_decide_eq_false b38
   refine l_M v28 (Ar rfl rfl rfl b38) rfl ?_
   have g39:=Val.len r28
   refine Aa (Ar rfl rfl rfl b38) (Ci (el:=3) Tryz.underlying49 rfl r28) ?_
   refine Aa (Ar rfl rfl rfl b38) (Ah (v:=vv21_3) h21_3) ?_
   have g40:=Val.len VV21_3
   refine Aa (Ar rfl rfl rfl b38) (Ci (el:=3) Tryz.underlying49 rfl VV21_3) ?_
   refine Aa (Ar rfl rfl rfl b38) (Ek rfl rfl) ?_
   refine l_M (.bool ((((Bw (Bv x)).length:Nat):Int) == (((Bw (Cj m x)).length:Nat):Int))) (Ar rfl rfl rfl b38) rfl ?_
   refine Cn ((((Bw (Bv x)).length:Nat):Int) == (((Bw (Cj m x)).length:Nat):Int)) (fun b41=>?_) (fun b41=>?_)
   ·have q41:=Jr b41
    refine l_M v28 (Ar rfl rfl rfl b41) rfl ?_
    refine Aa (Ar rfl rfl rfl b41) (Ah (v:=vv21_3) h21_3) ?_
    refine Ae (Ar rfl rfl rfl b41) (Bm (Agy r28 VV21_3) Tryz.func95 rfl rfl ⟨rfl,rfl,trivial⟩ ?_)
    refine Aa (Ar rfl rfl rfl b41) (Da rfl rfl) ?_
    refine Aa (Ar rfl rfl rfl b38) (Bt rfl b41 (v:=(.bool (decide ((Gz (Bw (Bv x)) (Bw (Cj m x))) < 0)))) rfl) ?_
    refine l_v (Bn rfl b38 (v:=(.bool (decide ((Gz (Bw (Bv x)) (Bw (Cj m x))) < 0)))) rfl) ?_
    refine l_v (Cp (v:=(.bool (decide ((Gz (Bw (Bv x)) (Bw (Cj m x))) < 0)))) rfl) ?_
    apply Ac
    refine kj31 _ ?_
    exact ⟨h21_2,h21_3,h21_6,rfl,rfl,h21_23,h21_24,(rfl.trans ((congrArg Value.bool (decide_eq_decide.2 (by unfold Cr; rw [← Ce]; omega))))),trivial⟩
   have q41:=Jq b41
   refine Ap (Bl rfl rfl rfl b41) ?_
   refine Ap (Bl rfl rfl rfl b41) ?_
   refine Ap (Bl rfl rfl rfl b41) ?_
   refine Ap (Bl rfl rfl rfl b41) ?_
   refine Aa (Ar rfl rfl rfl b38) (Bn rfl b41 (v:=(.bool (false))) rfl) ?_
   refine l_v (Bn rfl b38 (v:=(.bool (false))) rfl) ?_
   refine l_v (Cp (v:=(.bool (false))) rfl) ?_
   apply Ac
   refine kj31 _ ?_
   exact ⟨h21_2,h21_3,h21_6,rfl,rfl,h21_23,h21_24,(rfl.trans ((congrArg Value.bool (decide_eq_false (by unfold Cr; rw [← Ce]; omega)).symm))),trivial⟩
  have q24:=of_decide_eq_false b24
  refine Bx ?_
  apply k16
  refine w_q rfl rfl fun K42 k42=>?_
  refine l_v (Ah (v:=(iV (g))) h21_2) ?_
  refine l_v (Ah (v:=vv21_3) h21_3) ?_
  refine l_v (Cp (v:=(iV (g))) rfl) ?_
  refine l_v (Cp (v:=vv21_3) rfl) ?_
  refine l_v (Cp (v:=(iV (0))) rfl) ?_
  refine l_k k42 ?_
  refine Aq ?_
  refine hret _ _ _ ?_
  refine ⟨(Asi (Asi (Asi l2 l12) l15) l21),rfl,vv21_3,Eq.trans (b:=(.tuple #[(iV (g)),vv21_3,(iV (0))])) (Mp (r:=2) (r':=3) (rs:=[4]) (v:=(iV (g))) (v':=vv21_3) (vs:=[(iV (0))]) ⟨rfl,rfl,rfl,trivial⟩) ?_,Val.cast ?_ VV21_3⟩
  ·rw [Ahr,if_pos hm0,p21_1,show x = 2 ^ m.sales.length by omega,Me hn8,hm0]
  ·rw [Ahs,if_pos hm0,show x = 2 ^ m.sales.length by omega,Me hn8]
 ·refine Ct Ake fun k43=>⟨Ash,?_⟩
  refine Dj (i:=2) [o1,o1,o1,o0,o1,o0] rfl (by kernel_rfl) rfl rfl (Cm (vs:=[v11]) (Td r11 ok) Tryz.func92 rfl rfl ⟨rfl,trivial⟩ fun v44 ρ44 σ44 hc44=>?_)
  obtain ⟨l44,s44,r44⟩:=hc44
  replace s44:=s44.symm; subst s44
  replace r2:=At.mono l44 r2
  replace r10:=Asj l44 r10
  refine ⟨l44,?_⟩
  refine Hk (i:=3) Amh rfl (by kernel_rfl) rfl l44 rfl (Rt rfl r10 rfl r44) fun v45 r45=>?_
  refine Fg (i:=5) Ami rfl (by kernel_rfl) rfl rfl (Dv (v:=v45) (a:=(⟨m,⟨En m⟩⟩:GMarket)) (c:=Akc) Wk rfl rfl r45 rfl ⟨l44,?_⟩)
  refine Ec rfl ?_
  apply k9
  refine Nt (a:=(⟨m,⟨En m⟩⟩:GMarket)) r45 fun ρ46 l46 r46=>?_
  replace r2:=At.mono l46 r2
  refine Asb rfl rfl fun K47 K48 k47 k48=>?_
  refine Arw (Ay Market.f_sales Tryz.underlying36 rfl rfl Qn (by decide) rfl r2) fun v49 r49=>?_
  refine Arw (Ax Qn rfl r49) fun v50 r50=>?_
  have g51:=Val.len r50
  refine l_v (Ci (el:=146) Tryz.underlying34 rfl r50) ?_
  refine l_v (Md (p:=1) (q:=m.sales.length) rfl rfl rfl (by omega) (z:=(((1 <<< m.sales.length):Nat):Int)) (Ev (by omega) (by omega))) ?_
  refine l_v (Ah (v:=(.int .u64 (0))) rfl) ?_
  refine l_k k48 ?_
  refine Ao ?_
  refine Cc (fun mm ee dd ρ' σ'=>∃ (x:Nat) (g:Int) (vv52_3:Value),(1 <<< m.sales.length - x) = mm∧[] = dd∧Ro.le ρ46 ρ'∧σ = σ'∧ee 6 = (.pointer (some ⟨k43,0,none⟩))∧ee 23 = (.int .u64 ((((1 <<< m.sales.length):Nat):Int)))∧ee 2 = (iV (g))∧ee 3 = vv52_3∧ee 24 = (.int .u64 ((x:Int)))∧(x ≤ 1 <<< m.sales.length)∧(g = Bq m (Cj m x))∧Val ρ' vv52_3 (Bw (Cj m x):List Int)∧True) (m:=_) ⟨0,0,(.slice none 0 0),rfl,rfl,Ash,rfl,rfl,rfl,rfl,rfl,rfl,(Nat.zero_le _),(by rw [show Cj m 0 = [] from rfl]; exact (Ri ok).symm),(Val.cast (rfl) Gx),trivial⟩ ?_
  rintro m52 e52 _ ρ52 _ ⟨x,g,vv52_3,rfl,rfl,l52,rfl,h52_6,h52_23,h52_2,h52_3,h52_24,p52_0,p52_1,VV52_3,_⟩
  replace r46:=At.mono l52 r46
  have hi1:=Fc (l:=Bv x)
  have hi2:=Fc (l:=Cj m x)
  have hbl:=Ox (m:=m) (x:=x)
  have hsl:=Ui (x:=x)
  refine w_q rfl rfl fun K53 k53=>?_
  refine l_v (Da h52_24 h52_23) ?_
  refine Asa k53 fun K54 k54=>?_
  refine As (t:=decide ((x:Int) < (((1 <<< m.sales.length):Nat):Int))) rfl (fun b55=>?_) (fun b55=>?_)
  ·have q55:=of_decide_eq_true b55
   refine Al ?_
   apply k54
   refine Ai fun K56 k56=>?_
   refine Ao ?_
   refine w_q rfl rfl fun K57 k57=>?_
   refine l_v (Ah (v:=(.int .u64 ((x:Int)))) h52_24) ?_
   refine l_v (Cp (v:=(.int .u64 ((x:Int)))) rfl) ?_
   refine Arx rfl rfl k57 fun K58 k58=>?_
   refine l_v (Ah (v:=(.int .u64 ((x:Int)))) rfl) ?_
   refine Arv (Cm (vs:=[(.int .u64 ((x:Int)))]) (Acu (x:=x) (by omega)) Tryz.func93 rfl rfl ⟨rfl,trivial⟩ fun v59 ρ59 σ59 hc59=>?_)
   obtain ⟨l59,s59,r59⟩:=hc59
   replace s59:=s59.symm; subst s59
   replace r46:=At.mono l59 r46
   replace VV52_3:=Asj l59 VV52_3
   refine l_v (Cp (v:=v59) rfl) ?_
   refine Arx rfl rfl k58 fun K60 k60=>?_
   refine Arw (Ax Wk h52_6 r46) fun v61 r61=>?_
   refine l_v (Ah (v:=v59) rfl) ?_
   refine Arv (Bm (Acw (l:=Bv x) r61 r59 ok (Ado (by omega) hn8) (by omega)) Tryz.func94 rfl rfl ⟨rfl,rfl,trivial⟩ ?_)
   refine l_v (Cp (v:=(iV (Bq m (Bv x)))) rfl) ?_
   refine Asa k60 fun K62 k62=>?_
   have kj62:∀  (ee:Env),(ee 2 = (iV (g)))∧(ee 3 = vv52_3)∧(ee 6 = (.pointer (some ⟨k43,0,none⟩)))∧(ee 8 = v59)∧(ee 9 = (iV (Bq m (Bv x))))∧(ee 23 = (.int .u64 ((((1 <<< m.sales.length):Nat):Int))))∧(ee 24 = (.int .u64 ((x:Int))))∧(ee 10 = (.bool (decide (Cr (Bv x) (Cj m x)))))∧True→K62 ee ([]) ρ59 σ:=by
    rintro e62 ⟨h62_2,h62_3,h62_6,h62_8,h62_9,h62_23,h62_24,h62_10,_⟩
    apply k62
    refine Ai fun K63 k63=>?_
    have kj63:∀  (ee:Env),(ee 2 = (iV (g)))∧(ee 3 = vv52_3)∧(ee 6 = (.pointer (some ⟨k43,0,none⟩)))∧(ee 8 = v59)∧(ee 9 = (iV (Bq m (Bv x))))∧(ee 23 = (.int .u64 ((((1 <<< m.sales.length):Nat):Int))))∧(ee 24 = (.int .u64 ((x:Int))))∧(ee 60 = (.bool (decide (Bu (Bq m) (Bv x) (Cj m x)))))∧True→K63 ee ([]) ρ59 σ:=by
     rintro e63 ⟨h63_2,h63_3,h63_6,h63_8,h63_9,h63_23,h63_24,h63_60,_⟩
     apply k63
     refine As (t:=decide (Bu (Bq m) (Bv x) (Cj m x))) h63_60 (fun b64=>?_) (fun b64=>?_)
     ·have q64:=of_decide_eq_true b64
      refine Ag rfl rfl ?_
      refine l_v (Ah (v:=(iV (Bq m (Bv x)))) h63_9) ?_
      refine l_v (Ah (v:=v59) h63_8) ?_
      refine l_v (Cp (v:=(iV (Bq m (Bv x)))) rfl) ?_
      refine l_v (Cp (v:=v59) rfl) ?_
      refine l_k k56 ?_
      refine Ag rfl rfl ?_
      refine l_v (Br h63_24 rfl (z:=(((x + 1):Nat):Int)) ((Ev (by omega) (by omega)).trans (by push_cast; rfl))) ?_
      refine l_v (Ah (v:=(.int .u64 ((((x + 1):Nat):Int)))) rfl) ?_
      apply Ac
      refine ⟨_,?_,((x + 1)),(Bq m (Bv x)),v59,rfl,rfl,(Asi l52 l59),rfl,h63_6,h63_23,rfl,rfl,rfl,(by omega),(by rw [Dz q64]),(Val.cast (by rw [Dz q64]) r59),trivial⟩
      omega
     have q64:=of_decide_eq_false b64
     refine Al ?_
     apply k56
     refine Ag rfl rfl ?_
     refine l_v (Br h63_24 rfl (z:=(((x + 1):Nat):Int)) ((Ev (by omega) (by omega)).trans (by push_cast; rfl))) ?_
     refine l_v (Ah (v:=(.int .u64 ((((x + 1):Nat):Int)))) rfl) ?_
     apply Ac
     refine ⟨_,?_,((x + 1)),(g),vv52_3,rfl,rfl,(Asi l52 l59),rfl,h63_6,h63_23,h63_2,h63_3,rfl,(by omega),(by rw [Dy q64]; exact p52_1),(Val.cast (by rw [Dy q64]) VV52_3),trivial⟩
     omega
    refine Ag rfl rfl ?_
    refine l_v (Ah (v:=(iV (Bq m (Bv x)))) h62_9) ?_
    refine l_v (Ah (v:=(iV (g))) h62_2) ?_
    refine l_v (Gl rfl rfl) ?_
    refine l_v (Ah (v:=(.bool (decide (Bq m (Bv x) > g)))) rfl) ?_
    refine Cn (decide (Bq m (Bv x) > g)) (fun b65=>?_) (fun b65=>?_)
    ·have q65:=of_decide_eq_true b65
     refine Ap (Bl rfl rfl rfl b65) ?_
     refine Ap (Bl rfl rfl rfl b65) ?_
     refine Ap (Bl rfl rfl rfl b65) ?_
     refine Ap (Bl rfl rfl rfl b65) ?_
     refine Ap (Jf rfl rfl rfl) ?_
     refine Ap (Bl rfl rfl rfl b65) ?_
     refine l_v (Bt rfl b65 (v:=(.bool (true))) rfl) ?_
     apply Ac
     refine kj63 _ ?_
     exact ⟨h62_2,h62_3,h62_6,h62_8,h62_9,h62_23,h62_24,(rfl.trans ((congrArg Value.bool (decide_eq_true (by unfold Bu; omega)).symm))),trivial⟩
    have q65:=of_decide_eq_false b65
    refine Aa (Ar rfl rfl rfl b65) (Ah (v:=(iV (Bq m (Bv x)))) h62_9) ?_
    refine Aa (Ar rfl rfl rfl b65) (Ah (v:=(iV (g))) h62_2) ?_
    refine Aa (Ar rfl rfl rfl b65) (Ek rfl rfl) ?_
    refine l_M (.bool (Bq m (Bv x) == g)) (Ar rfl rfl rfl b65) rfl ?_
    refine Cn (Bq m (Bv x) == g) (fun b66=>?_) (fun b66=>?_)
    ·have q66:=Jr b66
     refine Aa (Ar rfl rfl rfl b66) (Ah (v:=(.bool (decide (Cr (Bv x) (Cj m x))))) h62_10) ?_
     refine Aa (Ar rfl rfl rfl b65) (Bt rfl b66 (v:=(.bool (decide (Cr (Bv x) (Cj m x))))) rfl) ?_
     refine l_v (Bn rfl b65 (v:=(.bool (decide (Cr (Bv x) (Cj m x))))) rfl) ?_
     apply Ac
     refine kj63 _ ?_
     exact ⟨h62_2,h62_3,h62_6,h62_8,h62_9,h62_23,h62_24,(rfl.trans ((congrArg Value.bool (decide_eq_decide.2 ⟨fun h=>Or.inr ⟨by omega,h⟩,fun h=>h.elim (fun h=>absurd h (by omega)) (·.2)⟩)))),trivial⟩
    have q66:=Jq b66
    refine Ap (Bl rfl rfl rfl b66) ?_
    refine Aa (Ar rfl rfl rfl b65) (Bn rfl b66 (v:=(.bool (false))) rfl) ?_
    refine l_v (Bn rfl b65 (v:=(.bool (false))) rfl) ?_
    apply Ac
    refine kj63 _ ?_
    exact ⟨h62_2,h62_3,h62_6,h62_8,h62_9,h62_23,h62_24,(rfl.trans ((congrArg Value.bool (decide_eq_false (by unfold Bu; omega)).symm))),trivial⟩
   refine Ag rfl rfl ?_
   refine l_v (Ah (v:=v59) rfl) ?_
   have g67:=Val.len r59
   refine l_v (Ci (el:=3) Tryz.underlying49 rfl r59) ?_
   refine l_v (Ah (v:=vv52_3) h52_3) ?_
   have g68:=Val.len VV52_3
   refine l_v (Ci (el:=3) Tryz.underlying49 rfl VV52_3) ?_
   refine l_v (Da rfl rfl) ?_
   refine l_v (Ah (v:=(.bool (decide ((((Bw (Bv x)).length:Nat):Int) < (((Bw (Cj m x)).length:Nat):Int))))) rfl) ?_
   refine Cn (decide ((((Bw (Bv x)).length:Nat):Int) < (((Bw (Cj m x)).length:Nat):Int))) (fun b69=>?_) (fun b69=>?_)
   ·have q69:=of_decide_eq_true b69
    refine Ap (Bl rfl rfl rfl b69) ?_
    refine Ap (Bl rfl rfl rfl b69) ?_
    refine Ap (Bl rfl rfl rfl b69) ?_
    refine Ap (Bl rfl rfl rfl b69) ?_
    refine Ap (Bl rfl rfl rfl b69) ?_
    refine Ap (Bl rfl rfl rfl b69) ?_
    refine Ap (Jf rfl rfl rfl) ?_
    refine Ap (Jf rfl rfl rfl) ?_
    refine Ap (Jf rfl rfl rfl) ?_
    refine Ap (Jf rfl rfl rfl) ?_
    refine Ap (Bl rfl rfl rfl b69) ?_
    refine l_v (Bt rfl b69 (v:=(.bool (true))) rfl) ?_
    refine l_v (Cp (v:=(.bool (true))) rfl) ?_
    apply Ac
    refine kj62 _ ?_
    exact ⟨h52_2,h52_3,h52_6,rfl,rfl,h52_23,h52_24,(rfl.trans ((congrArg Value.bool (decide_eq_true (by unfold Cr; rw [← Ce]; omega)).symm))),trivial⟩
   have q69:=of_decide_eq_false b69
   refine l_M v59 (Ar rfl rfl rfl b69) rfl ?_
   have g70:=Val.len r59
   refine Aa (Ar rfl rfl rfl b69) (Ci (el:=3) Tryz.underlying49 rfl r59) ?_
   refine Aa (Ar rfl rfl rfl b69) (Ah (v:=vv52_3) h52_3) ?_
   have g71:=Val.len VV52_3
   refine Aa (Ar rfl rfl rfl b69) (Ci (el:=3) Tryz.underlying49 rfl VV52_3) ?_
   refine Aa (Ar rfl rfl rfl b69) (Ek rfl rfl) ?_
   refine l_M (.bool ((((Bw (Bv x)).length:Nat):Int) == (((Bw (Cj m x)).length:Nat):Int))) (Ar rfl rfl rfl b69) rfl ?_
   refine Cn ((((Bw (Bv x)).length:Nat):Int) == (((Bw (Cj m x)).length:Nat):Int)) (fun b72=>?_) (fun b72=>?_)
   ·have q72:=Jr b72
    refine l_M v59 (Ar rfl rfl rfl b72) rfl ?_
    refine Aa (Ar rfl rfl rfl b72) (Ah (v:=vv52_3) h52_3) ?_
    refine Ae (Ar rfl rfl rfl b72) (Bm (Agy r59 VV52_3) Tryz.func95 rfl rfl ⟨rfl,rfl,trivial⟩ ?_)
    refine Aa (Ar rfl rfl rfl b72) (Da rfl rfl) ?_
    refine Aa (Ar rfl rfl rfl b69) (Bt rfl b72 (v:=(.bool (decide ((Gz (Bw (Bv x)) (Bw (Cj m x))) < 0)))) rfl) ?_
    refine l_v (Bn rfl b69 (v:=(.bool (decide ((Gz (Bw (Bv x)) (Bw (Cj m x))) < 0)))) rfl) ?_
    refine l_v (Cp (v:=(.bool (decide ((Gz (Bw (Bv x)) (Bw (Cj m x))) < 0)))) rfl) ?_
    apply Ac
    refine kj62 _ ?_
    exact ⟨h52_2,h52_3,h52_6,rfl,rfl,h52_23,h52_24,(rfl.trans ((congrArg Value.bool (decide_eq_decide.2 (by unfold Cr; rw [← Ce]; omega))))),trivial⟩
   have q72:=Jq b72
   refine Ap (Bl rfl rfl rfl b72) ?_
   refine Ap (Bl rfl rfl rfl b72) ?_
   refine Ap (Bl rfl rfl rfl b72) ?_
   refine Ap (Bl rfl rfl rfl b72) ?_
   refine Aa (Ar rfl rfl rfl b69) (Bn rfl b72 (v:=(.bool (false))) rfl) ?_
   refine l_v (Bn rfl b69 (v:=(.bool (false))) rfl) ?_
   refine l_v (Cp (v:=(.bool (false))) rfl) ?_
   apply Ac
   refine kj62 _ ?_
   exact ⟨h52_2,h52_3,h52_6,rfl,rfl,h52_23,h52_24,(rfl.trans ((congrArg Value.bool (decide_eq_false (by unfold Cr; rw [← Ce]; omega)).symm))),trivial⟩
  have q55:=of_decide_eq_false b55
  refine Bx ?_
  apply k47
  refine w_q rfl rfl fun K73 k73=>?_
  refine l_v (Ah (v:=(iV (g))) h52_2) ?_
  refine l_v (Ah (v:=vv52_3) h52_3) ?_
  refine l_v (Cp (v:=(iV (g))) rfl) ?_
  refine l_v (Cp (v:=vv52_3) rfl) ?_
  refine l_v (Cp (v:=(iV (0))) rfl) ?_
  refine l_k k73 ?_
  refine Aq ?_
  refine hret _ _ _ ?_
  refine ⟨(Asi (Asi (Asi l2 l44) l46) l52),rfl,vv52_3,Eq.trans (b:=(.tuple #[(iV (g)),vv52_3,(iV (0))])) (Mp (r:=2) (r':=3) (rs:=[4]) (v:=(iV (g))) (v':=vv52_3) (vs:=[(iV (0))]) ⟨rfl,rfl,rfl,trivial⟩) ?_,Val.cast ?_ VV52_3⟩
  ·rw [Ahr,if_pos hm0,p52_1,show x = 2 ^ m.sales.length by omega,Me hn8,hm0]
  ·rw [Ahs,if_pos hm0,show x = 2 ^ m.sales.length by omega,Me hn8]
end Go.Proofs.YtphgjjmlnkgghaaGreatDoor

namespace Go.Proofs.YtphgjjmlnkgghaaGreatDoor
set_option maxHeartbeats 1000000
open Go
theorem Abk {a x:Span} {p q:Int}:Tz a a x p = Tz a a x q:=by
 unfold Tz
 have h:∀ (r y:Int),r * y + (100 - r) * y = 100 * y:=fun r y=>by rw [← Int.add_mul]; congr 1; omega
 rw [h,h,h,h]
theorem Abl {f:FField} {marks:List Span} {p q:Int}:Gm f f marks p = Gm f f marks q:=by
 unfold Gm
 have e:Ho f f marks p = Ho f f marks q:=by
  funext k; unfold Ho; split
  ·rename_i a b x h1 h2 h3
   rw [h1] at h2; cases h2
   exact Abk
  ·rfl
 rw [e]
def Qc (m:Market) (marks:List Span):List Nat:=(List.range m.fields.length).filter (Iv m marks)
theorem Rw {m:Market} {marks:List Span} {i:Nat} {x:FField} (hx:m.fields[i]? = some x):Iv m marks i = Gm x x marks 100:=by
 unfold Iv; rw [hx]; exact Abl
theorem Yk {p:Nat→Bool} {i:Nat}:(List.range (i + 1)).filter p = (List.range i).filter p ++ (if p i then [i] else []):=by
 rw [List.range_succ,List.filter_append]; congr 1; cases h:p i <;> simp [h]
theorem Aes {p:Nat→Bool} {n i:Nat} (hi:i < n) (h:p i = true):(List.range n).filter p = (List.range i).filter p ++ i :: ((List.range' (i + 1) (n - 1 - i)).filter p):=by
 have e1:List.range n = List.range i ++ i :: List.range' (i + 1) (n - 1 - i):=by
  obtain ⟨d,rfl⟩:∃ d,n = i + (1 + d):=⟨n - 1 - i,by omega⟩
  rw [show i + (1 + d) - 1 - i = d by omega,List.range_eq_range',List.range_eq_range',← List.range'_append_1,← List.range'_append_1]
  simp
 rw [e1,List.filter_append,List.filter_cons,h,if_pos rfl]
set_option maxRecDepth 100000 in
theorem Alf {m:Market} {marks:List Span} {ρ₀:Ro} {vm vk:Value} (hm:At ρ₀ vm m) (hk:At ρ₀ vk marks) (ok:AskOk m marks) (okm:MarketOk m):IterF (.func (.func 112) #[] #[vm,vk]) ρ₀ ((Qc m marks).map (fun x:Nat=>Value.int .i64 (x:Int))):=by
 refine ⟨112,_,[vm,vk],rfl,Tryz.func112,rfl,rfl,?_⟩
 intro mn X l I ρ σ hle hmono hI hy
 replace hm:=hm.mono hle
 replace hk:=hk.mono hle
 have hn6:=okm.nfields
 refine Bh (n:=25) (args:=[(.func (.yield l) #[] #[]),vm,vk]) [] Tryz.func112 rfl rfl rfl rfl fun Q hret hnor=>?_
 refine w_q rfl rfl fun K1 k1=>?_
 refine Arw (Ay Market.f_fields Tryz.underlying36 rfl rfl Se (by decide) rfl hm) fun v2 r2=>?_
 refine Arw (Ax Se rfl r2) fun v3 r3=>?_
 have g4:=Val.len r3
 refine l_v (Ci (el:=47) Tryz.underlying33 rfl r3) ?_
 refine l_v (Ah (v:=(iV (0))) rfl) ?_
 refine l_k k1 ?_
 refine Ao ?_
 refine Cc (fun mm ee dd ρ' σ'=>∃ (i:Nat) (σb5:Own),(m.fields.length - i) = mm∧[] = dd∧Ro.le ρ ρ'∧σb5 = σ'∧ee 0 = (.func (.yield l) #[] #[])∧ee 2 = vk∧ee 7 = v3∧ee 8 = (iV (((m.fields.length:Nat):Int)))∧ee 9 = (iV ((i:Int)))∧(i ≤ m.fields.length)∧I (((List.range i).filter (Iv m marks)).map (fun x:Nat=>Value.int .i64 (x:Int))) ρ' σb5∧True) (m:=_) ⟨0,σ,rfl,rfl,Ash,rfl,rfl,rfl,rfl,rfl,rfl,(Nat.zero_le _),hI,trivial⟩ ?_
 rintro m5 e5 _ ρ5 _ ⟨i,σb5,rfl,rfl,l5,rfl,h5_0,h5_2,h5_7,h5_8,h5_9,p5_0,IB5,_⟩
 replace hk:=At.mono l5 hk
 replace r3:=Asj l5 r3
 refine w_q rfl rfl fun K6 k6=>?_
 refine l_v (Da h5_9 h5_8) ?_
 refine Asa k6 fun K7 k7=>?_
 refine As (t:=decide ((i:Int) < ((m.fields.length:Nat):Int))) rfl (fun b8=>?_) (fun b8=>?_)
 ·have q8:=of_decide_eq_true b8
  refine Al ?_
  apply k7
  refine Ai fun K9 k9=>?_
  refine Ao ?_
  refine w_q rfl rfl fun K10 k10=>?_
  refine l_v (Ah (v:=(iV ((i:Int)))) h5_9) ?_
  obtain ⟨a12,ha12⟩:=Ed (xs:=m.fields) (i:=i) (by omega)
  refine Arw (Ch i Tryz.underlying33 Lo h5_7 r3 (q:=(i:Int)) h5_9 rfl ha12) fun v11 r11=>?_
  refine Arw (Ax Lo rfl r11) fun v13 r13=>?_
  refine Arv (Ct Xu fun k14=>?_)
  refine l_v (Cp (v:=(iV ((i:Int)))) rfl) ?_
  refine Cx rfl (Dv (v:=v13) (a:=a12) (c:=Aah) Lo rfl rfl r13 rfl ?_)
  refine Bb (a:=a12) r13 fun ρ15 l15 r15=>?_
  replace hk:=At.mono l15 hk
  replace IB5:=hmono _ _ _ _ l15 IB5
  refine Arx rfl rfl k10 fun K16 k16=>?_
  refine Arw (Ax Uo h5_2 hk) fun v17 r17=>?_
  refine Arw (Ax Lo rfl r15) fun v18 r18=>?_
  refine Arw (Ax Lo rfl r15) fun v19 r19=>?_
  refine Arv (Bm (Acv r17 r18 r19 (ok.fields _ _ ha12) (ok.fields _ _ ha12) ok.marks (by omega)) Tryz.func101 rfl rfl ⟨rfl,rfl,rfl,rfl,trivial⟩ ?_)
  refine l_v (Ah (v:=(.bool (Gm a12 a12 marks 100))) rfl) ?_
  refine Cn (Gm a12 a12 marks 100) (fun b20=>?_) (fun b20=>?_)
  ·refine Aa (Ar rfl rfl rfl b20) (Ah (v:=(.func (.yield l) #[] #[])) h5_0) ?_
   refine l_M (iV ((i:Int))) (Ar rfl rfl rfl b20) rfl ?_
   have hor:=(Rw (marks:=marks) ha12).trans b20
   refine Ae (Ar rfl rfl rfl b20) (Xr (v:=(iV ((i:Int)))) rfl rfl (hy (((List.range i).filter (Iv m marks)).map (fun x:Nat=>Value.int .i64 (x:Int))) (iV ((i:Int))) (((List.range' (i + 1) (m.fields.length - 1 - i)).filter (Iv m marks)).map (fun x:Nat=>Value.int .i64 (x:Int))) _ _ (by unfold Qc; rw [Aes (by omega) hor,List.map_append,List.map_cons]) (Asi l5 l15) IB5) fun w21 ρ21 σ21 hc21=>?_)
   obtain ⟨hw21,l21,I21⟩:=hc21
   subst hw21
   refine Aa (Ar rfl rfl rfl b20) (Iy rfl) ?_
   refine l_v (Bt rfl b20 (v:=(.bool (!(true)))) rfl) ?_
   refine l_k k16 ?_
   refine Cg rfl (not_t rfl) ?_
   refine Al ?_
   apply k9
   refine Ag rfl rfl ?_
   refine l_v (Br h5_9 rfl (z:=(((i + 1):Nat):Int)) (Bo (by first | rfl | omega | (push_cast; rfl)) (by omega) (by omega))) ?_
   refine l_v (Ah (v:=(iV ((((i + 1):Nat):Int)))) rfl) ?_
   apply Ac
   refine ⟨_,?_,((i + 1)),σ21,rfl,rfl,(Asi (Asi l5 l15) l21),rfl,h5_0,h5_2,h5_7,h5_8,rfl,(by omega),(Yp (by rw [Yk,hor,if_pos rfl,List.map_append]; rfl) I21),trivial⟩
   omega
  refine Ap (Bl rfl rfl rfl b20) ?_
  refine Ap (Bl rfl rfl rfl b20) ?_
  refine Ap (Bl rfl rfl rfl b20) ?_
  refine Ap (Bl rfl rfl rfl b20) ?_
  refine l_v (Bn rfl b20 (v:=(.bool (false))) rfl) ?_
  refine l_k k16 ?_
  refine Cg rfl rfl ?_
  refine Al ?_
  apply k9
  refine Ag rfl rfl ?_
  refine l_v (Br h5_9 rfl (z:=(((i + 1):Nat):Int)) (Bo (by first | rfl | omega | (push_cast; rfl)) (by omega) (by omega))) ?_
  refine l_v (Ah (v:=(iV ((((i + 1):Nat):Int)))) rfl) ?_
  apply Ac
  refine ⟨_,?_,((i + 1)),σb5,rfl,rfl,(Asi l5 l15),rfl,h5_0,h5_2,h5_7,h5_8,rfl,(by omega),(Yp (by rw [Yk,Rw ha12,b20,if_neg (by simp),List.append_nil]) IB5),trivial⟩
  omega
 have q8:=of_decide_eq_false b8
 refine Bx ?_
 refine hnor _ _ _ ?_
 refine ⟨l5,?_⟩
 rw [Qc,show m.fields.length = i by omega]; exact IB5
set_option maxRecDepth 100000 in
theorem Aem {mn:Bool} {X:Frame→List Frame→Ro→Own→Cy→Prop} {ρ:Ro} {σ:Own} {m:Market} {marks:List Span} {vm vk:Value} (rm:Val ρ vm m) (rk:Val ρ vk marks) (ok:AskOk m marks) (okm:MarketOk m):CallsH (CX mn X) 56 #[vm,vk] ρ σ (fun w ρ' σ'=>Ro.le ρ ρ'∧σ' = σ∧IterF w ρ' ((Qc m marks).map (fun x:Nat=>Value.int .i64 (x:Int)))):=by
 refine Bh (n:=6) (args:=[vm,vk]) [4] Tryz.func56 rfl rfl rfl rfl fun Q hret hnor=>?_
 refine w_q rfl rfl fun K1 k1=>?_
 refine Arv (Eb (v:=vm) rfl fun k2=>?_)
 refine Bb (a:=m) rm fun ρ2 l2 r2=>?_
 replace rk:=Asj l2 rk
 refine Arv (Eb (v:=vk) rfl fun k3=>?_)
 refine Bb (a:=marks) rk fun ρ3 l3 r3=>?_
 replace r2:=At.mono l3 r2
 refine l_v (Cp (v:=.nilFunc) rfl) ?_
 refine Arx rfl rfl k1 fun K4 k4=>?_
 refine l_v (Il (fn:=.func 112) (caps:=[.tmp 2,.tmp 3]) (vs:=[(.pointer (some ⟨k2,0,none⟩)),(.pointer (some ⟨k3,0,none⟩))]) ⟨rfl,rfl,trivial⟩) ?_
 refine l_v (Cp (v:=(.func (.func 112) #[] #[(.pointer (some ⟨k2,0,none⟩)),(.pointer (some ⟨k3,0,none⟩))])) rfl) ?_
 refine l_k k4 ?_
 refine Aq ?_
 refine hret _ _ _ ?_
 refine ⟨(Asi l2 l3),rfl,?_⟩
 exact Alf r2 r3 ok okm
set_option maxRecDepth 100000 in
theorem Xz {mn:Bool} {X:Frame→List Frame→Ro→Own→Cy→Prop} {ρ:Ro} {σ:Own} {xs:List Nat} {vf:Value} (hf:IterF vf ρ (xs.map (fun x:Nat=>Value.int .i64 (x:Int)))) (hn:xs.length ≤ 100) (hx:∀ a ∈ xs,a < 1000):CallsH (CX mn X) 111 #[(.slice none 0 0),vf] ρ σ (fun w ρ' σ'=>Ro.le ρ ρ'∧σ' = σ∧Val ρ' w (Bw xs:List Int)):=by
 refine Nz (n:=13) (args:=[(.slice none 0 0),vf]) [4] Tryz.func111 rfl rfl rfl rfl fun Q hret hnor=>?_
 refine w_q rfl rfl fun K1 k1=>?_
 refine Arv (Eb (v:=(.slice none 0 0)) rfl fun k2=>?_)
 refine l_v (Cp (v:=(.slice none 0 0)) rfl) ?_
 refine Ary rfl rfl k1 fun K3 K4 k3 k4=>?_
 refine l_v (Ah (v:=vf) rfl) ?_
 refine l_k k4 ?_
 refine Ao ?_
 refine Hs (ys:=(xs).map (fun x:Nat=>Value.int .i64 (x:Int))) (fun pre ρ' τ=>∃ (l1:List Nat) (ov5_2c0:Value) (og5_2c0:Own),pre = l1.map (fun x:Nat=>Value.int .i64 (x:Int))∧(og5_2c0 ++ ((k2,oC #[ov5_2c0] 49) :: σ)) = τ∧Grow ρ' 3 ov5_2c0 (Bw l1) og5_2c0∧True) rfl rfl (Nat.le_of_ble_eq_true rfl) rfl hf ?_ ?_ ?_ ?_
 ·rintro pre ρa ρb σa hle ⟨l1,ov5_2c0,og5_2c0,h1,h2,OG5_2c0,_⟩; exact ⟨l1,ov5_2c0,og5_2c0,h1,h2,OG5_2c0.mono hle,trivial⟩
 ·exact ⟨[],(.slice none 0 0),[],rfl,rfl,Hm,trivial⟩
 ·rintro l5_ _ x5 post5 ρ5 _ hys5 l5 ⟨l1,ov5_2c0,og5_2c0,rfl,rfl,OG5_2c0,_⟩ pfx5
  obtain ⟨a5,l2_5,hl5,rfl⟩:=Ly Yi hys5
  refine Aj (σ':=(og5_2c0 ++ ((k2,Res.obj (Obj.cells #[ov5_2c0] 49 (0,0))) :: (pfx5 ++ σ)))) (Asg (by simpa only [List.append_assoc,List.cons_append,List.nil_append,List.set_cons_zero] using Fe pfx5 ((og5_2c0 ++ [(k2,Res.obj (Obj.cells #[ov5_2c0] 49 (0,0)))])) σ)) ?_
  have hlx:=congrArg List.length hl5
  have hil:=Fc (l:=l1)
  have hax:=hx a5 (by rw [hl5]; simp)
  simp only [List.length_append,List.length_cons] at hlx
  refine Ag rfl rfl ?_
  refine l_v (Cp (v:=(iV ((a5:Int)))) rfl) ?_
  refine Bj (σ':=pfx5 ++ (og5_2c0 ++ ((k2,Res.obj (Obj.cells #[ov5_2c0] 49 (0,0))) :: σ))) (Asg (by simpa only [List.append_assoc,List.cons_append,List.nil_append,List.set_cons_zero] using Fe ((og5_2c0 ++ [(k2,Res.obj (Obj.cells #[ov5_2c0] 49 (0,0)))])) pfx5 σ)) ?_
  apply Ac
  refine ⟨rfl,rfl,Ash,_,rfl,?_⟩
  intro pfy5
  refine Aj (σ':=(og5_2c0 ++ ((k2,Res.obj (Obj.cells #[ov5_2c0] 49 (0,0))) :: (pfy5 ++ σ)))) (Asg (by simpa only [List.append_assoc,List.cons_append,List.nil_append,List.set_cons_zero] using Fe pfy5 ((og5_2c0 ++ [(k2,Res.obj (Obj.cells #[ov5_2c0] 49 (0,0)))])) σ)) ?_
  refine Ao ?_
  refine Ag rfl rfl ?_
  refine Arv (Gu (v:=ov5_2c0) ⟨_,Tryz.underlying49,rfl⟩ rfl (List.mem_append_right _ (List.mem_cons_self ..)) rfl ?_)
  refine l_v (Ah (v:=(iV ((a5:Int)))) rfl) ?_
  refine Arv (Bi (α:=Int) (xs:=[(a5:Int)]) (vs:=[(iV ((a5:Int)))]) Tryz.underlying49 ty3 zr3 rfl (by decide) (Dk (os:=[.tmp 9]) ⟨rfl,trivial⟩) ⟨(Cv.2 ⟨rfl,by constructor <;> omega⟩),trivial⟩ rfl (by decide) fun k6 cs6 R6=>?_)
  have G6:Grow ρ5 3 (.slice (some ⟨k6,0,none⟩) 1 1) ([(a5:Int)]:List Int) [(k6,.obj (.cells cs6.toArray 3 (0,0)))]:=Bs R6 rfl (by decide)
  refine Ca G6 fun ρ8 l8 r8=>?_
  replace OG5_2c0:=Grow.mono l8 OG5_2c0
  refine Arv (Gc (σ:=((k2,oC #[ov5_2c0] 49) :: (pfy5 ++ σ))) (gr:=og5_2c0) (xs:=Bw l1) (ys:=([(a5:Int)]:List Int)) Tryz.underlying49 Tryz.underlying49 (Ab Tryz.typeInfo3) rfl (Nat.le_of_ble_eq_true rfl) rfl rfl rfl rfl OG5_2c0 r8 (by simp only [List.length_append,List.length_cons,List.length_nil]; omega) fun v7 gr7 G7=>?_)
  refine Bj (Asg Asd) ?_
  refine Cx rfl (Cz (j:=0) (v:=v7) ⟨_,Ab Tryz.typeInfo49,rfl⟩ rfl rfl (Grow.single G7) rfl (Nat.le_of_ble_eq_true rfl) ?_)
  refine Bj (Asg Asc) ?_
  refine Bj (σ':=pfy5 ++ (gr7 ++ ((k2,Res.obj (Obj.cells #[v7] 49 (0,0))) :: σ))) (Asg (by simpa only [List.append_assoc,List.cons_append,List.nil_append,List.set_cons_zero] using Fe ((gr7 ++ [(k2,Res.obj (Obj.cells #[v7] 49 (0,0)))])) pfy5 σ)) ?_
  apply Ac
  refine ⟨rfl,l8,_,rfl,l1 ++ [a5],v7,gr7,(by simp),rfl,(Fy (by simp [Bw]) G7),trivial⟩
 ·rintro k9 ρ9 _ l9 ⟨l1,ov5_2c0,og5_2c0,hpre9,rfl,OG5_2c0,_⟩
  obtain rfl:=Nf Yi hpre9
  apply k3
  refine w_q rfl rfl fun K10 k10=>?_
  refine Arv (Gu (v:=ov5_2c0) ⟨_,Tryz.underlying49,rfl⟩ rfl (List.mem_cons_of_mem _ (List.mem_append_right _ (List.mem_cons_self ..))) rfl ?_)
  refine l_v (Cp (v:=ov5_2c0) rfl) ?_
  refine l_k k10 ?_
  refine Aj (Asg Asc) ?_
  refine Hc OG5_2c0 fun ρ11 l11 r11=>?_
  refine Aj (Asg Arz) ?_
  refine Aj Ghost.drop ?_
  refine Aq ?_
  refine hret _ _ _ _ ?_
  refine ⟨(Asi l9 l11),rfl,Abz (v:=ov5_2c0) rfl (Val.cast ?_ r11)⟩
  ·rfl
set_option maxRecDepth 100000 in
theorem Aeg {mn:Bool} {X:Frame→List Frame→Ro→Own→Cy→Prop} {ρ:Ro} {σ:Own} {xs:List Nat} {vf:Value} (hf:IterF vf ρ (xs.map (fun x:Nat=>Value.int .i64 (x:Int)))) (hn:xs.length ≤ 100) (hx:∀ a ∈ xs,a < 1000):CallsH (CX mn X) 55 #[vf] ρ σ (fun w ρ' σ'=>Ro.le ρ ρ'∧σ' = σ∧Val ρ' w (Bw xs:List Int)):=by
 refine Bh (n:=5) (args:=[vf]) [2] Tryz.func55 rfl rfl rfl rfl fun Q hret hnor=>?_
 refine w_q rfl rfl fun K1 k1=>?_
 refine l_v (Cp (v:=(.slice none 0 0)) rfl) ?_
 refine Arx rfl rfl k1 fun K2 k2=>?_
 refine l_v (Ah (v:=vf) rfl) ?_
 refine Arv (Cm (vs:=[(.slice none 0 0),vf]) (Xz hf hn hx) Tryz.func111 rfl rfl ⟨rfl,rfl,trivial⟩ fun v3 ρ3 σ3 hc3=>?_)
 obtain ⟨l3,s3,r3⟩:=hc3
 replace s3:=s3.symm; subst s3
 refine l_v (Cp (v:=v3) rfl) ?_
 refine l_k k2 ?_
 refine Aq ?_
 refine hret _ _ _ ?_
 refine ⟨l3,rfl,Abz (v:=v3) rfl (Val.cast ?_ r3)⟩
 ·rfl
set_option maxRecDepth 100000 in
theorem Agu {mn:Bool} {X:Frame→List Frame→Ro→Own→Cy→Prop} {ρ:Ro} {σ:Own} {m:Market} {vm:Value} {marks:List Span} {vk:Value} (rm:Val ρ vm m) (rk:Val ρ vk marks):CallsH (CX mn X) 14 #[vm,vk] ρ σ (fun w ρ' σ'=>Ro.le ρ ρ'∧σ' = σ∧∃ v0,w = (.tuple #[v0,(iV (Sm m marks))])∧Val ρ' v0 (Sn m marks:List Int)):=by
 refine Bh (n:=17) (args:=[vm,vk]) [4,5] Tryz.func14 rfl rfl rfl rfl fun Q hret hnor=>?_
 refine w_q rfl rfl fun K1 k1=>?_
 refine Arv (Eb (v:=vm) rfl fun k2=>?_)
 refine Bb (a:=m) rm fun ρ2 l2 r2=>?_
 replace rk:=Asj l2 rk
 refine l_v (Cp (v:=(.slice none 0 0)) rfl) ?_
 refine l_v (Cp (v:=(iV (0))) rfl) ?_
 refine Ary rfl rfl k1 fun K3 K4 k3 k4=>?_
 refine Arw (Ax Ln rfl r2) fun v5 r5=>?_
 refine l_v (Ah (v:=vk) rfl) ?_
 refine Arv (Bm (Amo r5 rk) Tryz.func54 rfl rfl ⟨rfl,rfl,trivial⟩ ?_)
 refine l_v (Cp (v:=(iV (Ee m marks))) rfl) ?_
 refine Arx rfl rfl k4 fun K6 k6=>?_
 refine l_v (Ah (v:=(iV (Ee m marks))) rfl) ?_
 refine l_v (Dg rfl rfl) ?_
 refine l_k k6 ?_
 refine As (t:=Ee m marks != 0) rfl (fun b7=>?_) (fun b7=>?_)
 ·have q7:=Ls b7
  refine w_q rfl rfl fun K8 k8=>?_
  refine l_v (Ah (v:=(iV (Ee m marks))) rfl) ?_
  refine l_v (Cp (v:=(.slice none 0 0)) rfl) ?_
  refine l_v (Cp (v:=(iV (Ee m marks))) rfl) ?_
  refine l_k k8 ?_
  refine Aq ?_
  refine hret _ _ _ ?_
  refine ⟨l2,rfl,(.slice none 0 0),Eq.trans (b:=(.tuple #[(.slice none 0 0),(iV (Ee m marks))])) (Mp (r:=4) (r':=5) (rs:=[]) (v:=(.slice none 0 0)) (v':=(iV (Ee m marks))) (vs:=[]) ⟨rfl,rfl,trivial⟩) ?_,Val.cast ?_ Gx⟩
  ·rw [Sm,Ry q7]
  ·rw [Sn,if_neg q7]
 have ha0:=Jh b7
 obtain ⟨ok,okm⟩:=Xw ha0
 have hn6:=okm.nfields
 have q7:=Jh b7
 refine Al ?_
 apply k3
 refine w_q rfl rfl fun K9 k9=>?_
 refine Arw (Ax Ln rfl r2) fun v10 r10=>?_
 refine l_v (Ah (v:=vk) rfl) ?_
 refine Arv (Cm (vs:=[v10,vk]) (Aem r10 rk ok okm) Tryz.func56 rfl rfl ⟨rfl,rfl,trivial⟩ fun v11 ρ11 σ11 hc11=>?_)
 obtain ⟨l11,s11,r11⟩:=hc11
 replace s11:=s11.symm; subst s11
 refine Arv (Cm (vs:=[v11]) (Aeg r11 (by have:=List.length_filter_le (Iv m marks) (List.range m.fields.length); rw [List.length_range] at this; unfold Qc; omega) (fun a ha=>by have:=(List.mem_filter.1 ha).1; rw [List.mem_range] at this; omega)) Tryz.func55 rfl rfl ⟨rfl,trivial⟩ fun v12 ρ12 σ12 hc12=>?_)
 obtain ⟨l12,s12,r12⟩:=hc12
 replace s12:=s12.symm; subst s12
 refine l_v (Cp (v:=v12) rfl) ?_
 refine l_v (Cp (v:=(iV (0))) rfl) ?_
 refine l_k k9 ?_
 refine Aq ?_
 refine hret _ _ _ ?_
 refine ⟨(Asi (Asi l2 l11) l12),rfl,v12,Eq.trans (b:=(.tuple #[v12,(iV (0))])) (Mp (r:=4) (r':=5) (rs:=[]) (v:=v12) (v':=(iV (0))) (vs:=[]) ⟨rfl,rfl,trivial⟩) ?_,Val.cast ?_ r12⟩
 ·rw [Sm,Gr q7]
 ·rw [Sn,if_pos q7]; rfl
end Go.Proofs.YtphgjjmlnkgghaaGreatDoor
