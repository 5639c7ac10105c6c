/- The proof of fakeRead_holds, beyond what all laws of layer 8 need. -/
import Derived.Test.YtphgjjmlnkgghaaGreatDoorERa
set_option linter.unusedVariables false
set_option linter.unusedSimpArgs false
namespace Go.Proofs.YtphgjjmlnkgghaaGreatDoor
set_option maxHeartbeats 1000000
open Go
def gtP (n:Int):GPoint→Bool:=fun x=>decide (x.read > n)
theorem L7p {α:Type} {l:List α} {p:α→Bool}:-1 ≤ Oi l p∧Oi l p < (l.length:Int):=by
 unfold Oi
 rcases Ft (n:=l.length) (p:=atP l p) with ⟨i,h1,_,_,h4⟩ | ⟨_,h2⟩
 ·rw [h4]; simp only; omega
 ·rw [h2]; simp only; omega
theorem L5h {l:List GPoint} {n:Int}:L5t l n = Cl l.length (atP l (gtP n)):=rfl
theorem L7u {l:List GPoint} {n:Int} {a:GPoint} (h:Oi l (gtP n) = -1) (ha:l[((l.length:Int) - 1).toNat]? = some a):L0b l n = ⟨a.value,1⟩:=by
 unfold L0b
 rw [L5h]
 unfold Oi at h
 cases hx:Cl l.length (atP l (gtP n)) with
 | none=>simp only; rw [L3m (p:=a) (by rw [← ha]; congr 1; omega)]
 | some i=>rw [hx] at h; simp only at h; omega
theorem L8b {l:List GPoint} {n:Int} {a:GPoint} (h:Oi l (gtP n) = 0) (ha:l[0]? = some a):L0b l n = ⟨a.value,1⟩:=by
 unfold L0b
 rw [L5h]
 unfold Oi at h
 cases hx:Cl l.length (atP l (gtP n)) with
 | none=>rw [hx] at h; simp only at h; omega
 | some i =>
  rw [hx] at h; simp only at h
  obtain rfl:i = 0:=by omega
  simp only; rw [L3m ha]
theorem L7c {l:List GPoint} {n g:Int} {a b:GPoint} (h:Oi l (gtP n) = g) (hg:1 ≤ g) (ha:l[(g - 1).toNat]? = some a) (hb:l[g.toNat]? = some b):L0b l n = ⟨a.value * (b.read - n) + b.value * (n - a.read),b.read - a.read⟩:=by
 unfold L0b
 rw [L5h]
 unfold Oi at h
 cases hx:Cl l.length (atP l (gtP n)) with
 | none=>rw [hx] at h; simp only at h; omega
 | some i =>
  rw [hx] at h; simp only at h
  cases i with
  | zero=>omega
  | succ i =>
   simp only
   rw [L3m (p:=a) (i:=i) (by rw [← ha]; congr 1; omega),L3m (p:=b) (i:=i + 1) (by rw [← hb]; congr 1; omega)]
theorem L7s {v d:Int} (hv:-10000 ≤ v∧v ≤ 10000) (hd:-1000 ≤ d∧d ≤ 1000):-10000000 ≤ v * d∧v * d ≤ 10000000:=by
 rcases Int.lt_or_le d 0 with h | h
 ·have:=L7t (v:=v) (d:=-d) hv (by omega)
  rw [Int.mul_neg] at this; omega
 ·exact L7t hv (by omega)
def L2j (r:Ratio):Prop:=1 ≤ r.den∧r.den ≤ 1000∧-20000000 ≤ r.num∧r.num ≤ 20000000
theorem L7b {n d:Int} (hd:1 ≤ d):n.tdiv d = n / d + (if n.tmod d < 0 then 1 else 0):=by
 have h0:d.natAbs = d:=by omega
 rw [Int.tdiv_eq_ediv,Int.tmod_eq_emod]
 have h1:=Int.emod_nonneg n (show d ≠ 0 by omega)
 have h2:=Int.emod_lt_of_pos n (show 0 < d by omega)
 by_cases h:0 ≤ n∨d ∣ n
 ·rw [if_pos h,if_pos h,if_neg (by omega)]
 ·rw [if_neg h,if_neg h]
  have h3:(if n % d - (d.natAbs:Int) < 0 then (1:Int) else 0) = 1:=if_pos (by omega)
  have h4:d.sign = 1:=Int.sign_eq_one_of_pos (by omega)
  rw [h4,h3]
theorem L1q {r:Ratio} (h:L2j r):-20000000 ≤ L0c r∧L0c r ≤ 20000000:=L4j h.1 h.2.2
theorem L4r {r:Ratio} (h:L2j r):-20000000 ≤ upI r∧upI r ≤ 20000000:=L7w h.1 h.2.2
theorem L7a {r:Ratio} (h:L2j r):-20000000 ≤ r.num.tdiv r.den∧r.num.tdiv r.den ≤ 20000001:=by
 have h1:=L7b (n:=r.num) h.1
 have h2:=L1q h
 unfold L0c at h2
 split at h1 <;> omega
theorem L6w {r:Ratio} (h:L2j r):L2j ⟨-r.num,r.den⟩:=⟨h.1,h.2.1,by have:=h.2.2; simp only; omega,by have:=h.2.2; simp only; omega⟩
theorem L3e {l:List GPoint} (ok:PtsOk l) {n:Int} (hn:0 ≤ n∧n ≤ 1000):L2j (L0b l n):=L3q ok hn
def L4p (r:Ratio):Value:=.agg #[.int .i64 r.num,.int .i64 r.den]
theorem L1t {ρ:Ro} {r:Ratio} (h:L2j r):Val ρ (L4p r) r:=Ratio.shut (by have:=h.2.2; constructor <;> omega) (by have:=h.1; have:=h.2.1; constructor <;> omega)
theorem L7d {ρ:Ro} {v:Value} {r:Ratio} (h:Val ρ v r):v = L4p r:=(Ratio.open_ h).1
def L2b (l:List GPoint) (low:Int) (j:Nat):Value × Value:=(iV (low + (j:Int)),L4p (L0b l (low + (j:Int))))
theorem L1r {l:List GPoint} {low:Int}:∀ a b:Nat,L2b l low a = L2b l low b→a = b:=fun a b h=>by
 have:=congrArg Prod.fst h
 simp only [L2b] at this
 injection this with _ h'; omega
def L3o (l:List GPoint) (low:Int) (js:List Nat):Span:=js.foldl (fun s (j:Nat)=>⟨min s.low (L0c (L0b l (low + (j:Int)))),max s.high (upI (L0b l (low + (j:Int))))⟩) ⟨L0c (L0b l low),upI (L0b l low)⟩
theorem L2v {l:List GPoint} {low:Int} {js:List Nat} {a:Nat}:L3o l low (js ++ [a]) = ⟨min (L3o l low js).low (L0c (L0b l (low + (a:Int)))),max (L3o l low js).high (upI (L0b l (low + (a:Int))))⟩:=by
 unfold L3o; rw [List.foldl_append]; rfl
def L2r (r:GRule) (l:List Span) (i:Nat):Gauge:=⟨⟨L4a r i⟩,L3n l i⟩
def L0y (r:GRule) (l:List Span):List Gauge:=(List.range r.measures.length).map (L2r r l)
def nG (g:Gauge):Nat:=(g.reads.high - g.reads.low + 1).toNat
def L2y (g:Gauge):Prop:=PtsOk g.scale.points∧0 ≤ g.reads.low∧g.reads.low ≤ g.reads.high∧g.reads.high ≤ 1000
theorem L6t {r:GRule} {l:List Span} (h:L0f r l = 0) {i:Nat} {g:Gauge} (hg:(L0y r l)[i]? = some g):g = L2r r l i∧L2y g:=by
 obtain ⟨h1,h2⟩:=L1u.1 h
 unfold L0y at hg
 rw [List.getElem?_map] at hg
 obtain ⟨j,hj,rfl⟩:=Option.map_eq_some_iff.1 hg
 obtain ⟨hlt,h3⟩:=List.getElem?_eq_some_iff.1 hj
 rw [List.getElem_range] at h3
 subst h3
 rw [List.length_range] at hlt
 have hx:r.measures[i]? = some r.measures[i]:=List.getElem?_eq_getElem hlt
 have hz:l[i]? = some (l[i]'(by rw [h2.len]; exact hlt)):=List.getElem?_eq_getElem _
 refine ⟨rfl,?_⟩
 unfold L2y L2r
 simp only
 rw [L1v hz]
 refine ⟨?_,h2.at_ i _ hz⟩
 unfold L4a; rw [hx]; exact ((L3c h1).meas i _ hx).2.2
theorem L2a {α:Type} {f:Nat→α} {i:Nat}:(List.range (i + 1)).map f = (List.range i).map f ++ [f i]:=by
 rw [List.range_succ,List.map_append]; rfl
theorem L4o {β:Type} {f:Nat→β} {n j:Nat} (h:j < n):(List.range n).map f = (List.range j).map f ++ f j :: (List.range' (j + 1) (n - 1 - j)).map f:=by
 have e1:List.range n = List.range j ++ j :: List.range' (j + 1) (n - 1 - j):=by
  obtain ⟨d,rfl⟩:∃ d,n = j + (1 + d):=⟨n - 1 - j,by omega⟩
  rw [show j + (1 + d) - 1 - j = d by omega,List.range_eq_range',List.range_eq_range',← List.range'_append_1,← List.range'_append_1]
  simp
 rw [e1,List.map_append,List.map_cons]
set_option maxRecDepth 100000 in
theorem L5z {mn:Bool} {X:Frame→List Frame→Ro→Own→Cy→Prop} {ρ:Ro} {σ:Own} {l:List GPoint} {vl f:Value} {p:GPoint→Bool} (rl:Val ρ vl l) (hf:PredR ρ f (fun _:GPoint=>True) p):CallsH (CX mn X) 106 #[vl,f] ρ σ (fun w ρ' σ'=>ρ' = ρ∧σ' = σ∧w = (iV (Oi l p))):=by
 refine Bh (n:=19) (args:=[vl,f]) [4] Tryz.func106 rfl rfl rfl rfl fun Q hret hnor=>?_
 refine w_q rfl rfl fun K1 k1=>?_
 refine l_v (Cp (v:=(iV (0))) rfl) ?_
 refine Ary rfl rfl k1 fun K2 K3 k2 k3=>?_
 refine l_v (Ah (v:=vl) rfl) ?_
 have g4:=Val.len rl
 refine l_v (Ci (el:=227) Tryz.underlying37 rfl rl) ?_
 refine l_v (Ah (v:=(iV (0))) rfl) ?_
 refine l_k k3 ?_
 refine Ao ?_
 refine Cc (fun mm ee dd ρ' σ'=>∃ (i:Nat),(l.length - i) = mm∧[] = dd∧ρ = ρ'∧σ = σ'∧ee 0 = vl∧ee 1 = f∧ee 7 = (iV (((l.length:Nat):Int)))∧ee 8 = (iV ((i:Int)))∧(i ≤ l.length)∧(∀ j,j < i→atP l p j = false)∧True) (m:=_) ⟨0,rfl,rfl,rfl,rfl,rfl,rfl,rfl,rfl,(Nat.zero_le _),(fun j h=>absurd h (Nat.not_lt_zero _)),trivial⟩ ?_
 rintro m5 e5 _ _ _ ⟨i,rfl,rfl,rfl,rfl,h5_0,h5_1,h5_7,h5_8,p5_0,p5_1,_⟩
 refine w_q rfl rfl fun K6 k6=>?_
 refine l_v (Da h5_8 h5_7) ?_
 refine Asa k6 fun K7 k7=>?_
 refine As (t:=decide ((i:Int) < ((l.length:Nat):Int))) rfl (fun b8=>?_) (fun b8=>?_)
 ·have q8:=of_decide_eq_true b8
  refine Al ?_
  apply k7
  refine Ai fun K9 k9=>?_
  refine Ao ?_
  refine w_q rfl rfl fun K10 k10=>?_
  refine l_v (Ah (v:=(iV ((i:Int)))) h5_8) ?_
  refine l_v (Cp (v:=(iV ((i:Int)))) rfl) ?_
  refine Arx rfl rfl k10 fun K11 k11=>?_
  refine l_v (Ah (v:=f) h5_1) ?_
  refine l_v (Ah (v:=vl) h5_0) ?_
  refine l_v (Ah (v:=(iV ((i:Int)))) rfl) ?_
  obtain ⟨a13,ha13⟩:=Ed (xs:=l) (i:=i) (by omega)
  refine Arw (Ch i Tryz.underlying37 L0t rfl rl (q:=(i:Int)) rfl rfl ha13) fun v12 r12=>?_
  refine Arw (Ax L0t rfl r12) fun v14 r14=>?_
  refine Arv (Adv (pr:=p) (a:=a13) (v:=v14) hf Ash trivial rfl rfl r14 ?_)
  refine l_k k11 ?_
  refine As (t:=(p) a13) rfl (fun b15=>?_) (fun b15=>?_)
  ·refine w_q rfl rfl fun K16 k16=>?_
   refine l_v (Ah (v:=(iV ((i:Int)))) rfl) ?_
   refine l_v (Cp (v:=(iV ((i:Int)))) rfl) ?_
   refine l_k k16 ?_
   refine Aq ?_
   refine hret _ _ _ ⟨rfl,rfl,Eq.trans (b:=(iV ((i:Int)))) rfl ?_⟩
   have hi:=Fh (n:=l.length) p5_1 (by omega) (show atP l p i = true by simp only [atP,ha13,b8,b15])
   simp only [Oi,hi]
  refine Al ?_
  apply k9
  refine Ag rfl rfl ?_
  refine l_v (Br h5_8 rfl (z:=(((i + 1):Nat):Int)) (Bo (by first | rfl | omega | (push_cast; rfl)) (by omega) (by omega))) ?_
  refine l_v (Ah (v:=(iV ((((i + 1):Nat):Int)))) rfl) ?_
  apply Ac
  refine ⟨_,?_,((i + 1)),rfl,rfl,rfl,rfl,h5_0,h5_1,h5_7,rfl,(by omega),(Eg p5_1 (by simp only [atP,ha13,b8,b15])),trivial⟩
  omega
 have q8:=of_decide_eq_false b8
 refine Bx ?_
 apply k2
 refine w_q rfl rfl fun K17 k17=>?_
 refine l_v (Cp (v:=(iV ((-1)))) rfl) ?_
 refine l_k k17 ?_
 refine Aq ?_
 refine hret _ _ _ ⟨rfl,rfl,Eq.trans (b:=(iV ((-1)))) rfl ?_⟩
 have hn:=Ep (n:=l.length) fun j hj=>p5_1 j (by omega)
 simp only [Oi,hn]
set_option maxRecDepth 100000 in
theorem L8h {n:Int} {ρ₀:Ro} {vc:Value} (hc:At ρ₀ vc n):PredR ρ₀ (.func (.func 107) #[] #[vc]) (fun _:GPoint=>True) (gtP n):=by
 refine ⟨107,_,[vc],rfl,Tryz.func107,rfl,rfl,?_⟩
 intro mn X ρ σ v x hle _ hv
 replace hc:=hc.mono hle
 refine Bh (n:=8) (args:=[v,vc]) [3] Tryz.func107 rfl rfl rfl rfl fun Q hret hnor=>?_
 refine w_q rfl rfl fun K1 k1=>?_
 refine Arv (Eb (v:=v) rfl fun k2=>?_)
 refine Bb (a:=x) hv fun ρ2 l2 r2=>?_
 replace hc:=At.mono l2 hc
 refine l_v (Cp (v:=(.bool (false))) rfl) ?_
 refine Arx rfl rfl k1 fun K3 k3=>?_
 refine Arw (Ay GPoint.f_read Tryz.underlying227 rfl rfl ty3 (by decide) rfl r2) fun v4 r4=>?_
 have ⟨g5a,g5b⟩:=At.rng r4
 refine l_v (Bc ty3 rfl r4) ?_
 have ⟨g6a,g6b⟩:=At.rng hc
 refine l_v (Bc ty3 rfl hc) ?_
 refine l_v (Gl rfl rfl) ?_
 refine l_v (Cp (v:=(.bool (decide (x.read > n)))) rfl) ?_
 refine l_k k3 ?_
 refine Aj (Asf l2) ?_
 refine Aq ?_
 refine hret _ _ _ ⟨rfl,rfl,Eq.trans (b:=(.bool (decide (x.read > n)))) rfl ?_⟩
 rfl
set_option maxRecDepth 100000 in
theorem L5p {mn:Bool} {X:Frame→List Frame→Ro→Own→Cy→Prop} {ρ:Ro} {σ:Own} {s:Scale} {vs:Value} {n:Int} (rs:Val ρ vs s) (ok:PtsOk s.points) (hn:0 ≤ n∧n ≤ 1000):CallsH (CX mn X) 46 #[vs,(iV (n))] ρ σ (fun w ρ' σ'=>Ro.le ρ ρ'∧σ' = σ∧Val ρ' w (L0b s.points n:Ratio)):=by
 have hne:=ok.ne
 have hn6:=ok.n6
 refine Lt (n:=65) (args:=[vs,(iV (n))]) [.cell 4 136] Tryz.func46 rfl rfl rfl rfl fun Q hret hnor=>?_
 refine w_q rfl rfl fun K1 k1=>?_
 refine Arv (Eb (v:=vs) rfl fun k2=>?_)
 refine Bb (a:=s) rs fun ρ2 l2 r2=>?_
 refine Arv (Eb (v:=(iV (n))) rfl fun k3=>?_)
 refine Bb (a:=n) (Cv.2 ⟨rfl,by constructor <;> omega⟩) fun ρ3 l3 r3=>?_
 replace r2:=At.mono l3 r2
 refine Arv (Ct L1p fun k4=>?_)
 refine Arx rfl rfl k1 fun K5 k5=>?_
 refine Arw (Ay Scale.f_points Tryz.underlying132 rfl rfl L0j (by decide) rfl r2) fun v6 r6=>?_
 refine Arw (Ax L0j rfl r6) fun v7 r7=>?_
 refine l_v (Il (fn:=.func 107) (caps:=[.tmp 3]) (vs:=[(.pointer (some ⟨k3,0,none⟩))]) ⟨rfl,trivial⟩) ?_
 refine Arv (Bm (L5z r7 (L8h r3)) Tryz.func106 rfl rfl ⟨rfl,rfl,trivial⟩ ?_)
 obtain ⟨gi,hgi_⟩:∃ z:Int,z = Oi s.points (gtP n):=⟨_,rfl⟩
 refine l_v (Cp (v:=(.int .i64 gi)) ((show _ = Value.int .i64 (Oi s.points (gtP n)) from rfl).trans (by rw [hgi_]))) ?_
 have hgr:=L7p (l:=s.points) (p:=gtP n)
 rw [← hgi_] at hgr
 refine Ary rfl rfl k5 fun K8 K9 k8 k9=>?_
 refine l_v (Ah (v:=(iV (gi))) rfl) ?_
 refine l_k k9 ?_
 refine Ao ?_
 refine w_q rfl rfl fun K10 k10=>?_
 refine l_v (Ek rfl rfl) ?_
 refine l_v (Cp (v:=(.bool (gi == 0))) rfl) ?_
 refine l_k k10 ?_
 refine As (t:=gi == 0) rfl (fun b11=>?_) (fun b11=>?_)
 ·have q11:=Jr b11
  refine w_q rfl rfl fun K12 k12=>?_
  refine Arw (Ay Scale.f_points Tryz.underlying132 rfl rfl L0j (by decide) rfl r2) fun v13 r13=>?_
  refine Arw (Ax L0j rfl r13) fun v14 r14=>?_
  obtain ⟨a16,ha16⟩:=Ed (xs:=s.points) (i:=0) (by omega)
  obtain ⟨⟨wa16_1,wa16_2⟩,wa16_3,wa16_4⟩:=ok.pt _ _ ha16
  refine Arw (Ch 0 Tryz.underlying37 L0t rfl r14 (q:=0) rfl rfl ha16) fun v15 r15=>?_
  refine Arw (Ay GPoint.f_value Tryz.underlying227 rfl rfl ty3 (by decide) rfl r15) fun v17 r17=>?_
  have ⟨g18a,g18b⟩:=At.rng r17
  refine l_v (Bc ty3 rfl r17) ?_
  have r19:Val ρ3 (.agg #[(iV (a16.value)),(iV (1))]) (⟨a16.value,1⟩:Ratio):=Ratio.shut (x:=(⟨a16.value,1⟩:Ratio)) (show I64 (a16.value) from by constructor <;> omega) (show I64 (1) from by constructor <;> omega)
  refine l_v (Dn (ns:=[1,1]) (vs:=[(0,(iV (a16.value))),(1,(iV (1)))]) (zc:=L1z) (cs:=[(iV (a16.value)),(iV (1))]) Tryz.underlying136 L1p rfl ⟨⟨_,Ab Tryz.typeInfo3,rfl⟩,⟨_,Ab Tryz.typeInfo3,rfl⟩,trivial⟩ (EvB.map ⟨⟨rfl,rfl⟩,⟨rfl,rfl⟩,trivial⟩) ((Be (cs:=[(iV (a16.value))]) rfl rfl (Nat.le_of_ble_eq_true rfl)).trans ((Be (cs:=[(iV (1))]) rfl rfl (Nat.le_of_ble_eq_true rfl)).trans rfl))) ?_
  refine Cx rfl (Li (i:=0) (vs:=[(iV (a16.value)),(iV (1))]) (c':=[(iV (a16.value)),(iV (1))]) ⟨_,Ab Tryz.typeInfo136,rfl⟩ rfl rfl rfl rfl (Zh ⟨rfl,rfl,trivial⟩) rfl (Nat.le_of_ble_eq_true rfl) rfl ?_)
  refine l_k k12 ?_
  refine Aq ?_
  have r20:Val ρ3 (.agg #[(iV (a16.value)),(iV (1))]) (⟨a16.value,1⟩:Ratio):=Ratio.shut (x:=(⟨a16.value,1⟩:Ratio)) (show I64 (a16.value) from by constructor <;> omega) (show I64 (1) from by constructor <;> omega)
  refine hret _ _ _ _ _ [(.agg #[(iV (a16.value)),(iV (1))])] ⟨(Qh ⟨_,Tryz.underlying136,rfl⟩ ⟨_,Ab Tryz.typeInfo136,rfl⟩ rfl (i:=0) rfl rfl),trivial⟩ Ghost.drop ?_
  refine ⟨(Asi l2 l3),rfl,Abz (v:=(.agg #[(iV (a16.value)),(iV (1))])) rfl (Val.cast ?_ r20)⟩
  ·exact (L8b (by omega) ha16).symm
 have q11:=Jq b11
 refine w_q rfl rfl fun K21 k21=>?_
 refine l_v (Ek rfl rfl) ?_
 refine l_v (Cp (v:=(.bool (gi == (-1)))) rfl) ?_
 refine l_k k21 ?_
 refine As (t:=gi == (-1)) rfl (fun b22=>?_) (fun b22=>?_)
 ·have q22:=Jr b22
  refine w_q rfl rfl fun K23 k23=>?_
  refine Arw (Ay Scale.f_points Tryz.underlying132 rfl rfl L0j (by decide) rfl r2) fun v24 r24=>?_
  refine Arw (Ax L0j rfl r24) fun v25 r25=>?_
  refine Arw (Ay Scale.f_points Tryz.underlying132 rfl rfl L0j (by decide) rfl r2) fun v26 r26=>?_
  refine Arw (Ax L0j rfl r26) fun v27 r27=>?_
  have g28:=Val.len r27
  refine l_v (Ci (el:=227) Tryz.underlying37 rfl r27) ?_
  refine l_v (Ou rfl rfl (z:=(((s.points.length:Nat):Int) - 1)) (Bo (by first | rfl | omega | (push_cast; rfl)) (by omega) (by omega))) ?_
  obtain ⟨a30,ha30⟩:=Ed (xs:=s.points) (i:=((((s.points.length:Nat):Int) - 1)).toNat) (by omega)
  obtain ⟨⟨wa30_1,wa30_2⟩,wa30_3,wa30_4⟩:=ok.pt _ _ ha30
  refine Arw (Ch (((((s.points.length:Nat):Int) - 1)).toNat) Tryz.underlying37 L0t rfl r25 (q:=(((s.points.length:Nat):Int) - 1)) rfl (by omega) ha30) fun v29 r29=>?_
  refine Arw (Ay GPoint.f_value Tryz.underlying227 rfl rfl ty3 (by decide) rfl r29) fun v31 r31=>?_
  have ⟨g32a,g32b⟩:=At.rng r31
  refine l_v (Bc ty3 rfl r31) ?_
  have r33:Val ρ3 (.agg #[(iV (a30.value)),(iV (1))]) (⟨a30.value,1⟩:Ratio):=Ratio.shut (x:=(⟨a30.value,1⟩:Ratio)) (show I64 (a30.value) from by constructor <;> omega) (show I64 (1) from by constructor <;> omega)
  refine l_v (Dn (ns:=[1,1]) (vs:=[(0,(iV (a30.value))),(1,(iV (1)))]) (zc:=L1z) (cs:=[(iV (a30.value)),(iV (1))]) Tryz.underlying136 L1p rfl ⟨⟨_,Ab Tryz.typeInfo3,rfl⟩,⟨_,Ab Tryz.typeInfo3,rfl⟩,trivial⟩ (EvB.map ⟨⟨rfl,rfl⟩,⟨rfl,rfl⟩,trivial⟩) ((Be (cs:=[(iV (a30.value))]) rfl rfl (Nat.le_of_ble_eq_true rfl)).trans ((Be (cs:=[(iV (1))]) rfl rfl (Nat.le_of_ble_eq_true rfl)).trans rfl))) ?_
  refine Cx rfl (Li (i:=0) (vs:=[(iV (a30.value)),(iV (1))]) (c':=[(iV (a30.value)),(iV (1))]) ⟨_,Ab Tryz.typeInfo136,rfl⟩ rfl rfl rfl rfl (Zh ⟨rfl,rfl,trivial⟩) rfl (Nat.le_of_ble_eq_true rfl) rfl ?_)
  refine l_k k23 ?_
  refine Aq ?_
  have r34:Val ρ3 (.agg #[(iV (a30.value)),(iV (1))]) (⟨a30.value,1⟩:Ratio):=Ratio.shut (x:=(⟨a30.value,1⟩:Ratio)) (show I64 (a30.value) from by constructor <;> omega) (show I64 (1) from by constructor <;> omega)
  refine hret _ _ _ _ _ [(.agg #[(iV (a30.value)),(iV (1))])] ⟨(Qh ⟨_,Tryz.underlying136,rfl⟩ ⟨_,Ab Tryz.typeInfo136,rfl⟩ rfl (i:=0) rfl rfl),trivial⟩ Ghost.drop ?_
  refine ⟨(Asi l2 l3),rfl,Abz (v:=(.agg #[(iV (a30.value)),(iV (1))])) rfl (Val.cast ?_ r34)⟩
  ·exact (L7u (by omega) ha30).symm
 have q22:=Jq b22
 refine Al ?_
 apply k8
 refine Ai fun K35 k35=>?_
 refine Dc [0,1,2,3,4,5,6,7,8,9,10,11,12,13,14] (by kernel_rfl) rfl rfl ?_
 refine Cd (i:=0) Anz rfl (by kernel_rfl) rfl Ash rfl (Ay Scale.f_points Tryz.underlying132 rfl rfl L0j (by decide) rfl r2) fun v36 r36=>?_
 refine Cd (i:=1) Aoa rfl (by kernel_rfl) rfl Ash rfl (Ax L0j rfl r36) fun v37 r37=>?_
 refine Bd (i:=2) Aob rfl (by kernel_rfl) rfl Ash rfl (Ah (v:=(iV (gi))) rfl) ?_
 refine Bd (i:=3) Aoc rfl (by kernel_rfl) rfl Ash rfl (Ou rfl rfl (z:=(gi - 1)) (Bo (by rfl) (by omega) (by omega))) ?_
 obtain ⟨a39,ha39⟩:=Ed (xs:=s.points) (i:=((gi - 1)).toNat) (by omega)
 obtain ⟨⟨wa39_1,wa39_2⟩,wa39_3,wa39_4⟩:=ok.pt _ _ ha39
 refine Cd (i:=4) Aod rfl (by kernel_rfl) rfl Ash rfl (Ch (((gi - 1)).toNat) Tryz.underlying37 L0t rfl r37 (q:=(gi - 1)) rfl (by omega) ha39) fun v38 r38=>?_
 refine Cd (i:=5) Aoe rfl (by kernel_rfl) rfl Ash rfl (Ax L0t rfl r38) fun v40 r40=>?_
 refine Cd (i:=6) Aof rfl (by kernel_rfl) rfl Ash rfl (Ay Scale.f_points Tryz.underlying132 rfl rfl L0j (by decide) rfl r2) fun v41 r41=>?_
 refine Cd (i:=7) [o1,o1,o1,o1,o1,o1,o1,o1,o0,o0,o0,o0,o0,o0,o0] rfl (by kernel_rfl) rfl Ash rfl (Ax L0j rfl r41) fun v42 r42=>?_
 refine Bd (i:=8) [o1,o1,o1,o1,o1,o1,o1,o1,o1,o0,o0,o0,o0,o0,o0] rfl (by kernel_rfl) rfl Ash rfl (Ah (v:=(iV (gi))) rfl) ?_
 obtain ⟨a44,ha44⟩:=Ed (xs:=s.points) (i:=(gi).toNat) (by omega)
 obtain ⟨⟨wa44_1,wa44_2⟩,wa44_3,wa44_4⟩:=ok.pt _ _ ha44
 refine Cd (i:=9) [o1,o1,o1,o1,o1,o1,o1,o1,o1,o1,o0,o0,o0,o0,o0] rfl (by kernel_rfl) rfl Ash rfl (Ch ((gi).toNat) Tryz.underlying37 L0t rfl r42 (q:=gi) rfl (by omega) ha44) fun v43 r43=>?_
 refine Cd (i:=10) [o1,o1,o1,o1,o1,o1,o1,o1,o1,o1,o1,o0,o0,o0,o0] rfl (by kernel_rfl) rfl Ash rfl (Ax L0t rfl r43) fun v45 r45=>?_
 refine Acq (i:=11) (j:=12) [o1,o1,o1,o1,o1,o1,o1,o1,o1,o1,o1,o1,o0,o0,o0] [o1,o1,o1,o1,o1,o1,o1,o1,o1,o1,o1,o0,o1,o0,o0] rfl rfl (by kernel_rfl) rfl rfl rfl rfl ?_ ?_
 ·refine Ct L3t fun k46=>⟨Ash,?_⟩
  refine Dj (i:=12) Aol rfl (by kernel_rfl) rfl rfl (Ct L3t fun k47=>⟨Ash,?_⟩)
  refine Ej (Asg Arz) id ?_
  refine Fg (i:=13) Aom rfl (by kernel_rfl) rfl rfl (Dv (v:=v40) (a:=a39) (c:=L3s) L0t rfl rfl r40 rfl ⟨Ash,?_⟩)
  refine L3f (a:=a39) r40 fun ρ48 l48 r48=>?_
  replace r3:=At.mono l48 r3
  replace r45:=Asj l48 r45
  refine Fg (i:=14) Aon rfl (by kernel_rfl) rfl rfl (Dv (v:=v45) (a:=a44) (c:=L3s) L0t rfl rfl r45 rfl ⟨l48,?_⟩)
  refine Ec rfl ?_
  apply k35
  refine Nt (a:=a44) r45 fun ρ49 l49 r49=>?_
  replace r3:=At.mono l49 r3
  replace r48:=At.mono l49 r48
  refine w_q rfl rfl fun K50 k50=>?_
  refine Arw (Ay GPoint.f_value Tryz.underlying227 rfl rfl ty3 (by decide) rfl r48) fun v51 r51=>?_
  have ⟨g52a,g52b⟩:=At.rng r51
  refine l_v (Bc ty3 rfl r51) ?_
  refine Arw (Ay GPoint.f_read Tryz.underlying227 rfl rfl ty3 (by decide) rfl r49) fun v53 r53=>?_
  have ⟨g54a,g54b⟩:=At.rng r53
  refine l_v (Bc ty3 rfl r53) ?_
  have ⟨g55a,g55b⟩:=At.rng r3
  refine l_v (Bc ty3 rfl r3) ?_
  refine l_v (Ou rfl rfl (z:=(a44.read - n)) (Bo (by rfl) (by omega) (by omega))) ?_
  have hmul56:=L7s (v:=a39.value) (d:=(a44.read - n)) (by omega) (by omega)
  refine l_v (Wq rfl rfl (z:=(a39.value * (a44.read - n))) (Bo rfl (by omega) (by omega))) ?_
  refine Arw (Ay GPoint.f_value Tryz.underlying227 rfl rfl ty3 (by decide) rfl r49) fun v57 r57=>?_
  have ⟨g58a,g58b⟩:=At.rng r57
  refine l_v (Bc ty3 rfl r57) ?_
  have ⟨g59a,g59b⟩:=At.rng r3
  refine l_v (Bc ty3 rfl r3) ?_
  refine Arw (Ay GPoint.f_read Tryz.underlying227 rfl rfl ty3 (by decide) rfl r48) fun v60 r60=>?_
  have ⟨g61a,g61b⟩:=At.rng r60
  refine l_v (Bc ty3 rfl r60) ?_
  refine l_v (Ou rfl rfl (z:=(n - a39.read)) (Bo (by rfl) (by omega) (by omega))) ?_
  have hmul62:=L7s (v:=a44.value) (d:=(n - a39.read)) (by omega) (by omega)
  refine l_v (Wq rfl rfl (z:=(a44.value * (n - a39.read))) (Bo rfl (by omega) (by omega))) ?_
  refine l_v (Br rfl rfl (z:=((a39.value * (a44.read - n)) + (a44.value * (n - a39.read)))) (Bo (by rfl) (by omega) (by omega))) ?_
  refine Arw (Ay GPoint.f_read Tryz.underlying227 rfl rfl ty3 (by decide) rfl r49) fun v63 r63=>?_
  have ⟨g64a,g64b⟩:=At.rng r63
  refine l_v (Bc ty3 rfl r63) ?_
  refine Arw (Ay GPoint.f_read Tryz.underlying227 rfl rfl ty3 (by decide) rfl r48) fun v65 r65=>?_
  have ⟨g66a,g66b⟩:=At.rng r65
  refine l_v (Bc ty3 rfl r65) ?_
  refine l_v (Ou rfl rfl (z:=(a44.read - a39.read)) (Bo (by rfl) (by omega) (by omega))) ?_
  have r67:Val ρ49 (.agg #[(iV (((a39.value * (a44.read - n)) + (a44.value * (n - a39.read))))),(iV ((a44.read - a39.read)))]) (⟨((a39.value * (a44.read - n)) + (a44.value * (n - a39.read))),(a44.read - a39.read)⟩:Ratio):=Ratio.shut (x:=(⟨((a39.value * (a44.read - n)) + (a44.value * (n - a39.read))),(a44.read - a39.read)⟩:Ratio)) (show I64 (((a39.value * (a44.read - n)) + (a44.value * (n - a39.read)))) from by constructor <;> omega) (show I64 ((a44.read - a39.read)) from by constructor <;> omega)
  refine l_v (Dn (ns:=[1,1]) (vs:=[(0,(iV (((a39.value * (a44.read - n)) + (a44.value * (n - a39.read)))))),(1,(iV ((a44.read - a39.read))))]) (zc:=L1z) (cs:=[(iV (((a39.value * (a44.read - n)) + (a44.value * (n - a39.read))))),(iV ((a44.read - a39.read)))]) Tryz.underlying136 L1p rfl ⟨⟨_,Ab Tryz.typeInfo3,rfl⟩,⟨_,Ab Tryz.typeInfo3,rfl⟩,trivial⟩ (EvB.map ⟨⟨rfl,rfl⟩,⟨rfl,rfl⟩,trivial⟩) ((Be (cs:=[(iV (((a39.value * (a44.read - n)) + (a44.value * (n - a39.read)))))]) rfl rfl (Nat.le_of_ble_eq_true rfl)).trans ((Be (cs:=[(iV ((a44.read - a39.read)))]) rfl rfl (Nat.le_of_ble_eq_true rfl)).trans rfl))) ?_
  refine Cx rfl (Li (i:=0) (vs:=[(iV (((a39.value * (a44.read - n)) + (a44.value * (n - a39.read))))),(iV ((a44.read - a39.read)))]) (c':=[(iV (((a39.value * (a44.read - n)) + (a44.value * (n - a39.read))))),(iV ((a44.read - a39.read)))]) ⟨_,Ab Tryz.typeInfo136,rfl⟩ rfl rfl rfl rfl (Zh ⟨rfl,rfl,trivial⟩) rfl (Nat.le_of_ble_eq_true rfl) rfl ?_)
  refine l_k k50 ?_
  refine Aq ?_
  have r68:Val ρ49 (.agg #[(iV (((a39.value * (a44.read - n)) + (a44.value * (n - a39.read))))),(iV ((a44.read - a39.read)))]) (⟨((a39.value * (a44.read - n)) + (a44.value * (n - a39.read))),(a44.read - a39.read)⟩:Ratio):=Ratio.shut (x:=(⟨((a39.value * (a44.read - n)) + (a44.value * (n - a39.read))),(a44.read - a39.read)⟩:Ratio)) (show I64 (((a39.value * (a44.read - n)) + (a44.value * (n - a39.read)))) from by constructor <;> omega) (show I64 ((a44.read - a39.read)) from by constructor <;> omega)
  refine hret _ _ _ _ _ [(.agg #[(iV (((a39.value * (a44.read - n)) + (a44.value * (n - a39.read))))),(iV ((a44.read - a39.read)))])] ⟨(Qh ⟨_,Tryz.underlying136,rfl⟩ ⟨_,Ab Tryz.typeInfo136,rfl⟩ rfl (i:=0) rfl rfl),trivial⟩ Ghost.drop ?_
  refine ⟨(Asi (Asi (Asi l2 l3) l48) l49),rfl,Abz (v:=(.agg #[(iV (((a39.value * (a44.read - n)) + (a44.value * (n - a39.read))))),(iV ((a44.read - a39.read)))])) rfl (Val.cast ?_ r68)⟩
  ·exact (L7c hgi_.symm (by omega) ha39 ha44).symm
 ·refine Ct L3t fun k69=>⟨Ash,?_⟩
  refine Dj (i:=11) Aol rfl (by kernel_rfl) rfl rfl (Ct L3t fun k70=>⟨Ash,?_⟩)
  refine Fg (i:=13) Aom rfl (by kernel_rfl) rfl rfl (Dv (v:=v40) (a:=a39) (c:=L3s) L0t rfl rfl r40 rfl ⟨Ash,?_⟩)
  refine L3f (a:=a39) r40 fun ρ71 l71 r71=>?_
  replace r3:=At.mono l71 r3
  replace r45:=Asj l71 r45
  refine Fg (i:=14) Aon rfl (by kernel_rfl) rfl rfl (Dv (v:=v45) (a:=a44) (c:=L3s) L0t rfl rfl r45 rfl ⟨l71,?_⟩)
  refine Ec rfl ?_
  apply k35
  refine Nt (a:=a44) r45 fun ρ72 l72 r72=>?_
  replace r3:=At.mono l72 r3
  replace r71:=At.mono l72 r71
  refine w_q rfl rfl fun K73 k73=>?_
  refine Arw (Ay GPoint.f_value Tryz.underlying227 rfl rfl ty3 (by decide) rfl r71) fun v74 r74=>?_
  have ⟨g75a,g75b⟩:=At.rng r74
  refine l_v (Bc ty3 rfl r74) ?_
  refine Arw (Ay GPoint.f_read Tryz.underlying227 rfl rfl ty3 (by decide) rfl r72) fun v76 r76=>?_
  have ⟨g77a,g77b⟩:=At.rng r76
  refine l_v (Bc ty3 rfl r76) ?_
  have ⟨g78a,g78b⟩:=At.rng r3
  refine l_v (Bc ty3 rfl r3) ?_
  refine l_v (Ou rfl rfl (z:=(a44.read - n)) (Bo (by rfl) (by omega) (by omega))) ?_
  have hmul79:=L7s (v:=a39.value) (d:=(a44.read - n)) (by omega) (by omega)
  refine l_v (Wq rfl rfl (z:=(a39.value * (a44.read - n))) (Bo rfl (by omega) (by omega))) ?_
  refine Arw (Ay GPoint.f_value Tryz.underlying227 rfl rfl ty3 (by decide) rfl r72) fun v80 r80=>?_
  have ⟨g81a,g81b⟩:=At.rng r80
  refine l_v (Bc ty3 rfl r80) ?_
  have ⟨g82a,g82b⟩:=At.rng r3
  refine l_v (Bc ty3 rfl r3) ?_
  refine Arw (Ay GPoint.f_read Tryz.underlying227 rfl rfl ty3 (by decide) rfl r71) fun v83 r83=>?_
  have ⟨g84a,g84b⟩:=At.rng r83
  refine l_v (Bc ty3 rfl r83) ?_
  refine l_v (Ou rfl rfl (z:=(n - a39.read)) (Bo (by rfl) (by omega) (by omega))) ?_
  have hmul85:=L7s (v:=a44.value) (d:=(n - a39.read)) (by omega) (by omega)
  refine l_v (Wq rfl rfl (z:=(a44.value * (n - a39.read))) (Bo rfl (by omega) (by omega))) ?_
  refine l_v (Br rfl rfl (z:=((a39.value * (a44.read - n)) + (a44.value * (n - a39.read)))) (Bo (by rfl) (by omega) (by omega))) ?_
  refine Arw (Ay GPoint.f_read Tryz.underlying227 rfl rfl ty3 (by decide) rfl r72) fun v86 r86=>?_
  have ⟨g87a,g87b⟩:=At.rng r86
  refine l_v (Bc ty3 rfl r86) ?_
  refine Arw (Ay GPoint.f_read Tryz.underlying227 rfl rfl ty3 (by decide) rfl r71) fun v88 r88=>?_
  have ⟨g89a,g89b⟩:=At.rng r88
  refine l_v (Bc ty3 rfl r88) ?_
  refine l_v (Ou rfl rfl (z:=(a44.read - a39.read)) (Bo (by rfl) (by omega) (by omega))) ?_
  have r90:Val ρ72 (.agg #[(iV (((a39.value * (a44.read - n)) + (a44.value * (n - a39.read))))),(iV ((a44.read - a39.read)))]) (⟨((a39.value * (a44.read - n)) + (a44.value * (n - a39.read))),(a44.read - a39.read)⟩:Ratio):=Ratio.shut (x:=(⟨((a39.value * (a44.read - n)) + (a44.value * (n - a39.read))),(a44.read - a39.read)⟩:Ratio)) (show I64 (((a39.value * (a44.read - n)) + (a44.value * (n - a39.read)))) from by constructor <;> omega) (show I64 ((a44.read - a39.read)) from by constructor <;> omega)
  refine l_v (Dn (ns:=[1,1]) (vs:=[(0,(iV (((a39.value * (a44.read - n)) + (a44.value * (n - a39.read)))))),(1,(iV ((a44.read - a39.read))))]) (zc:=L1z) (cs:=[(iV (((a39.value * (a44.read - n)) + (a44.value * (n - a39.read))))),(iV ((a44.read - a39.read)))]) Tryz.underlying136 L1p rfl ⟨⟨_,Ab Tryz.typeInfo3,rfl⟩,⟨_,Ab Tryz.typeInfo3,rfl⟩,trivial⟩ (EvB.map ⟨⟨rfl,rfl⟩,⟨rfl,rfl⟩,trivial⟩) ((Be (cs:=[(iV (((a39.value * (a44.read - n)) + (a44.value * (n - a39.read)))))]) rfl rfl (Nat.le_of_ble_eq_true rfl)).trans ((Be (cs:=[(iV ((a44.read - a39.read)))]) rfl rfl (Nat.le_of_ble_eq_true rfl)).trans rfl))) ?_
  refine Cx rfl (Li (i:=0) (vs:=[(iV (((a39.value * (a44.read - n)) + (a44.value * (n - a39.read))))),(iV ((a44.read - a39.read)))]) (c':=[(iV (((a39.value * (a44.read - n)) + (a44.value * (n - a39.read))))),(iV ((a44.read - a39.read)))]) ⟨_,Ab Tryz.typeInfo136,rfl⟩ rfl rfl rfl rfl (Zh ⟨rfl,rfl,trivial⟩) rfl (Nat.le_of_ble_eq_true rfl) rfl ?_)
  refine l_k k73 ?_
  refine Aq ?_
  have r91:Val ρ72 (.agg #[(iV (((a39.value * (a44.read - n)) + (a44.value * (n - a39.read))))),(iV ((a44.read - a39.read)))]) (⟨((a39.value * (a44.read - n)) + (a44.value * (n - a39.read))),(a44.read - a39.read)⟩:Ratio):=Ratio.shut (x:=(⟨((a39.value * (a44.read - n)) + (a44.value * (n - a39.read))),(a44.read - a39.read)⟩:Ratio)) (show I64 (((a39.value * (a44.read - n)) + (a44.value * (n - a39.read)))) from by constructor <;> omega) (show I64 ((a44.read - a39.read)) from by constructor <;> omega)
  refine hret _ _ _ _ _ [(.agg #[(iV (((a39.value * (a44.read - n)) + (a44.value * (n - a39.read))))),(iV ((a44.read - a39.read)))])] ⟨(Qh ⟨_,Tryz.underlying136,rfl⟩ ⟨_,Ab Tryz.typeInfo136,rfl⟩ rfl (i:=0) rfl rfl),trivial⟩ Ghost.drop ?_
  refine ⟨(Asi (Asi (Asi l2 l3) l71) l72),rfl,Abz (v:=(.agg #[(iV (((a39.value * (a44.read - n)) + (a44.value * (n - a39.read))))),(iV ((a44.read - a39.read)))])) rfl (Val.cast ?_ r91)⟩
  ·exact (L7c hgi_.symm (by omega) ha39 ha44).symm
set_option maxRecDepth 100000 in
theorem L2o {mn:Bool} {X:Frame→List Frame→Ro→Own→Cy→Prop} {ρ:Ro} {σ:Own} {r:Ratio} {vr:Value} (rr:Val ρ vr r) (hr:L2j r):CallsH (CX mn X) 47 #[vr] ρ σ (fun w ρ' σ'=>ρ' = ρ∧σ' = σ∧w = (iV (L0c r))):=by
 have htb:=L7a hr
 have hr1:=hr.1
 have htf:=L7b (n:=r.num) hr.1
 refine Bh (n:=18) (args:=[vr]) [2] Tryz.func47 rfl rfl rfl rfl fun Q hret hnor=>?_
 refine w_q rfl rfl fun K1 k1=>?_
 refine Arv (Eb (v:=vr) rfl fun k2=>?_)
 refine Bb (a:=r) rr fun ρ2 l2 r2=>?_
 refine l_v (Cp (v:=(iV (0))) rfl) ?_
 refine Arx rfl rfl k1 fun K3 k3=>?_
 refine Arw (Ay Ratio.f_num Tryz.underlying136 rfl rfl ty3 (by decide) rfl r2) fun v4 r4=>?_
 have ⟨g5a,g5b⟩:=At.rng r4
 refine l_v (Bc ty3 rfl r4) ?_
 refine Arw (Ay Ratio.f_den Tryz.underlying136 rfl rfl ty3 (by decide) rfl r2) fun v6 r6=>?_
 have ⟨g7a,g7b⟩:=At.rng r6
 refine l_v (Bc ty3 rfl r6) ?_
 refine l_v (L8g (p:=r.num) (q:=r.den) rfl rfl (by omega) (z:=(r.num.tdiv r.den)) (Bo rfl (by omega) (by omega))) ?_
 refine l_v (Cp (v:=(iV ((r.num.tdiv r.den)))) rfl) ?_
 refine Ary rfl rfl k3 fun K8 K9 k8 k9=>?_
 refine Arw (Ay Ratio.f_num Tryz.underlying136 rfl rfl ty3 (by decide) rfl r2) fun v10 r10=>?_
 have ⟨g11a,g11b⟩:=At.rng r10
 refine l_v (Bc ty3 rfl r10) ?_
 refine Arw (Ay Ratio.f_den Tryz.underlying136 rfl rfl ty3 (by decide) rfl r2) fun v12 r12=>?_
 have ⟨g13a,g13b⟩:=At.rng r12
 refine l_v (Bc ty3 rfl r12) ?_
 refine l_v (L7f (p:=r.num) (q:=r.den) rfl rfl (by omega) (z:=(r.num.tmod r.den)) rfl) ?_
 refine l_v (Da rfl rfl) ?_
 refine l_k k9 ?_
 refine As (t:=decide ((r.num.tmod r.den) < 0)) rfl (fun b14=>?_) (fun b14=>?_)
 ·have q14:=of_decide_eq_true b14
  refine Ag rfl rfl ?_
  refine l_v (Ah (v:=(iV ((r.num.tdiv r.den)))) rfl) ?_
  refine l_v (Ou rfl rfl (z:=((r.num.tdiv r.den) - 1)) (Bo (by rfl) (by omega) (by omega))) ?_
  refine l_v (Cp (v:=(iV (((r.num.tdiv r.den) - 1)))) rfl) ?_
  refine Arx rfl rfl k8 fun K15 k15=>?_
  refine l_v (Ah (v:=(iV (((r.num.tdiv r.den) - 1)))) rfl) ?_
  refine l_v (Cp (v:=(iV (((r.num.tdiv r.den) - 1)))) rfl) ?_
  refine l_k k15 ?_
  refine Aj (Asf l2) ?_
  refine Aq ?_
  refine hret _ _ _ ⟨rfl,rfl,Eq.trans (b:=(iV (((r.num.tdiv r.den) - 1)))) rfl ?_⟩
  rw [if_pos (by omega)] at htf; unfold L0c; congr 1; omega
 have q14:=of_decide_eq_false b14
 refine Al ?_
 apply k8
 refine w_q rfl rfl fun K16 k16=>?_
 refine l_v (Ah (v:=(iV ((r.num.tdiv r.den)))) rfl) ?_
 refine l_v (Cp (v:=(iV ((r.num.tdiv r.den)))) rfl) ?_
 refine l_k k16 ?_
 refine Aj (Asf l2) ?_
 refine Aq ?_
 refine hret _ _ _ ⟨rfl,rfl,Eq.trans (b:=(iV ((r.num.tdiv r.den)))) rfl ?_⟩
 rw [if_neg (by omega)] at htf; unfold L0c; congr 1; omega
set_option maxRecDepth 100000 in
theorem L6f {mn:Bool} {X:Frame→List Frame→Ro→Own→Cy→Prop} {ρ:Ro} {σ:Own} {r:Ratio} {vr:Value} (rr:Val ρ vr r) (hr:L2j r):CallsH (CX mn X) 48 #[vr] ρ σ (fun w ρ' σ'=>ρ' = ρ∧σ' = σ∧w = (iV (upI r))):=by
 have hrb:=hr.2.2
 have hr1:=hr.1
 have hr2:=hr.2.1
 have hdb:=L1q (L6w hr)
 refine Bh (n:=11) (args:=[vr]) [2] Tryz.func48 rfl rfl rfl rfl fun Q hret hnor=>?_
 refine w_q rfl rfl fun K1 k1=>?_
 refine Arv (Eb (v:=vr) rfl fun k2=>?_)
 refine Bb (a:=r) rr fun ρ2 l2 r2=>?_
 refine l_v (Cp (v:=(iV (0))) rfl) ?_
 refine Arx rfl rfl k1 fun K3 k3=>?_
 refine Arw (Ay Ratio.f_num Tryz.underlying136 rfl rfl ty3 (by decide) rfl r2) fun v4 r4=>?_
 have ⟨g5a,g5b⟩:=At.rng r4
 refine l_v (Bc ty3 rfl r4) ?_
 refine l_v (L7x (p:=r.num) (z:=(-r.num)) rfl (Bo (by omega) (by omega) (by omega))) ?_
 refine Arw (Ay Ratio.f_den Tryz.underlying136 rfl rfl ty3 (by decide) rfl r2) fun v6 r6=>?_
 have ⟨g7a,g7b⟩:=At.rng r6
 refine l_v (Bc ty3 rfl r6) ?_
 have r8:Val ρ2 (.agg #[(iV ((-r.num))),(iV (r.den))]) (⟨(-r.num),r.den⟩:Ratio):=Ratio.shut (x:=(⟨(-r.num),r.den⟩:Ratio)) (show I64 ((-r.num)) from by constructor <;> omega) (show I64 (r.den) from by constructor <;> omega)
 refine l_v (Dn (ns:=[1,1]) (vs:=[(0,(iV ((-r.num)))),(1,(iV (r.den)))]) (zc:=L1z) (cs:=[(iV ((-r.num))),(iV (r.den))]) Tryz.underlying136 L1p rfl ⟨⟨_,Ab Tryz.typeInfo3,rfl⟩,⟨_,Ab Tryz.typeInfo3,rfl⟩,trivial⟩ (EvB.map ⟨⟨rfl,rfl⟩,⟨rfl,rfl⟩,trivial⟩) ((Be (cs:=[(iV ((-r.num)))]) rfl rfl (Nat.le_of_ble_eq_true rfl)).trans ((Be (cs:=[(iV (r.den))]) rfl rfl (Nat.le_of_ble_eq_true rfl)).trans rfl))) ?_
 refine Arv (Bm (L2o r8 (L6w hr)) Tryz.func47 rfl rfl ⟨rfl,trivial⟩ ?_)
 refine l_v (L7x (p:=L0c ((⟨(-r.num),r.den⟩:Ratio))) (z:=(-(L0c ((⟨(-r.num),r.den⟩:Ratio))))) rfl (Bo (by omega) (by omega) (by omega))) ?_
 refine l_v (Cp (v:=(iV ((-(L0c ((⟨(-r.num),r.den⟩:Ratio))))))) rfl) ?_
 refine l_k k3 ?_
 refine Aj (Asf l2) ?_
 refine Aq ?_
 refine hret _ _ _ ⟨rfl,rfl,Eq.trans (b:=(iV ((-(L0c ((⟨(-r.num),r.den⟩:Ratio))))))) rfl ?_⟩
 rfl
set_option maxRecDepth 100000 in
theorem L7q {g:Gauge} {ρ₀:Ro} {vc:Value} (hc:At ρ₀ vc g) (hg:L2y g):IterF2 (.func (.func 108) #[] #[vc]) ρ₀ ((List.range (nG g)).map (L2b g.scale.points g.reads.low)):=by
 refine ⟨108,_,[vc],rfl,Tryz.func108,rfl,rfl,?_⟩
 intro mn X l I ρ σ hle hmono hI hy
 replace hc:=hc.mono hle
 obtain ⟨ok,hg1,hg2,hg3⟩:=hg
 have hng:nG g = (g.reads.high - g.reads.low + 1).toNat:=rfl
 refine Bh (n:=22) (args:=[(.func (.yield l) #[] #[]),vc]) [] Tryz.func108 rfl rfl rfl rfl fun Q hret hnor=>?_
 refine w_q rfl rfl fun K1 k1=>?_
 refine Arw (Ay Gauge.f_reads Tryz.underlying134 rfl rfl Mx (by decide) rfl hc) fun v2 r2=>?_
 refine Arw (Ay Span.f_low Tryz.underlying41 rfl rfl ty3 (by decide) rfl r2) fun v3 r3=>?_
 have ⟨g4a,g4b⟩:=At.rng r3
 refine l_v (Bc ty3 rfl r3) ?_
 refine l_v (Cp (v:=(iV (g.reads.low))) rfl) ?_
 refine l_k k1 ?_
 refine Ao ?_
 refine Cc (fun mm ee dd ρ' σ'=>∃ (z:Int) (σb5:Own),((g.reads.high + 1 - z).toNat) = mm∧[] = dd∧Ro.le ρ ρ'∧σb5 = σ'∧ee 0 = (.func (.yield l) #[] #[])∧ee 1 = vc∧ee 3 = (iV (z))∧(g.reads.low ≤ z∧z ≤ g.reads.high + 1)∧I ((List.range (z - g.reads.low).toNat).map (L2b g.scale.points g.reads.low)) ρ' σb5∧True) (m:=_) ⟨g.reads.low,σ,rfl,rfl,Ash,rfl,rfl,rfl,rfl,(by omega),(L6v (by rw [show (g.reads.low - g.reads.low).toNat = 0 by omega]; rfl) hI),trivial⟩ ?_
 rintro m5 e5 _ ρ5 _ ⟨z,σb5,rfl,rfl,l5,rfl,h5_0,h5_1,h5_3,p5_0,IB5,_⟩
 replace hc:=At.mono l5 hc
 refine Asb rfl rfl fun K6 K7 k6 k7=>?_
 refine l_v (Ah (v:=(iV (z))) h5_3) ?_
 refine Arw (Ay Gauge.f_reads Tryz.underlying134 rfl rfl Mx (by decide) h5_1 hc) fun v8 r8=>?_
 refine Arw (Ay Span.f_high Tryz.underlying41 rfl rfl ty3 (by decide) rfl r8) fun v9 r9=>?_
 have ⟨g10a,g10b⟩:=At.rng r9
 refine l_v (Bc ty3 rfl r9) ?_
 refine l_v (Uz rfl rfl) ?_
 refine l_k k7 ?_
 refine As (t:=decide (z ≤ g.reads.high)) rfl (fun b11=>?_) (fun b11=>?_)
 ·have q11:=of_decide_eq_true b11
  refine Al ?_
  apply k6
  refine Ai fun K12 k12=>?_
  refine Ao ?_
  refine w_q rfl rfl fun K13 k13=>?_
  refine l_v (Ah (v:=(.func (.yield l) #[] #[])) h5_0) ?_
  refine l_v (Ah (v:=(iV (z))) h5_3) ?_
  refine Arw (Ay Gauge.f_scale Tryz.underlying134 rfl rfl L4q (by decide) h5_1 hc) fun v14 r14=>?_
  refine Arw (Ax L4q rfl r14) fun v15 r15=>?_
  refine l_v (Ah (v:=(iV (z))) h5_3) ?_
  refine Arv (Cm (vs:=[v15,(iV (z))]) (L5p r15 ok (by omega)) Tryz.func46 rfl rfl ⟨rfl,rfl,trivial⟩ fun v16 ρ16 σ16 hc16=>?_)
  obtain ⟨l16,s16,r16⟩:=hc16
  replace s16:=s16.symm; subst s16
  replace IB5:=hmono _ _ _ _ l16 IB5
  have hve18:=L7d r16
  subst hve18
  have hjz:g.reads.low + (((z - g.reads.low).toNat:Nat):Int) = z:=by omega
  refine Arv (L7e (v:=(iV (z))) (v2:=(L4p (L0b g.scale.points z))) rfl rfl rfl (hy ((List.range (z - g.reads.low).toNat).map (L2b g.scale.points g.reads.low)) ((iV (z)),(L4p (L0b g.scale.points z))) ((List.range' ((z - g.reads.low).toNat + 1) (nG g - 1 - (z - g.reads.low).toNat)).map (L2b g.scale.points g.reads.low)) _ _ ((L4o (show (z - g.reads.low).toNat < nG g by omega)).trans (by rw [show L2b g.scale.points g.reads.low (z - g.reads.low).toNat = (.int .i64 z,L4p (L0b g.scale.points z)) by unfold L2b; rw [hjz]])) (Asi l5 l16) IB5) fun w17 ρ17 σ17 hc17=>?_)
  obtain ⟨hw17,l17,I17⟩:=hc17
  subst hw17
  refine l_v (Iy rfl) ?_
  refine l_k k13 ?_
  refine Cg rfl (not_t rfl) ?_
  refine Al ?_
  apply k12
  refine Ag rfl rfl ?_
  refine l_v (Ah (v:=(iV (z))) h5_3) ?_
  refine l_v (Br rfl rfl (z:=(z + 1)) (Bo (by rfl) (by omega) (by omega))) ?_
  refine l_v (Cp (v:=(iV ((z + 1)))) rfl) ?_
  apply Ac
  refine ⟨_,?_,((z + 1)),σ17,rfl,rfl,(Asi (Asi l5 l16) l17),rfl,h5_0,h5_1,rfl,(by omega),(L6v (by rw [show (z + 1 - g.reads.low).toNat = (z - g.reads.low).toNat + 1 by omega,L2a]; congr 2; unfold L2b; rw [hjz]) I17),trivial⟩
  omega
 have q11:=of_decide_eq_false b11
 refine Bx ?_
 refine hnor _ _ _ ?_
 refine ⟨l5,?_⟩
 rw [show nG g = (z - g.reads.low).toNat by omega]; exact IB5
set_option maxRecDepth 100000 in
theorem L2e {mn:Bool} {X:Frame→List Frame→Ro→Own→Cy→Prop} {ρ:Ro} {σ:Own} {g:Gauge} {vg:Value} (rg:Val ρ vg g) (hg:L2y g):CallsH (CX mn X) 49 #[vg] ρ σ (fun w ρ' σ'=>Ro.le ρ ρ'∧σ' = σ∧IterF2 w ρ' ((List.range (nG g)).map (L2b g.scale.points g.reads.low))):=by
 refine Bh (n:=4) (args:=[vg]) [2] Tryz.func49 rfl rfl rfl rfl fun Q hret hnor=>?_
 refine w_q rfl rfl fun K1 k1=>?_
 refine Arv (Eb (v:=vg) rfl fun k2=>?_)
 refine Bb (a:=g) rg fun ρ2 l2 r2=>?_
 refine l_v (Cp (v:=.nilFunc) rfl) ?_
 refine Arx rfl rfl k1 fun K3 k3=>?_
 refine l_v (Il (fn:=.func 108) (caps:=[.tmp 1]) (vs:=[(.pointer (some ⟨k2,0,none⟩))]) ⟨rfl,trivial⟩) ?_
 refine l_v (Cp (v:=(.func (.func 108) #[] #[(.pointer (some ⟨k2,0,none⟩))])) rfl) ?_
 refine l_k k3 ?_
 refine Aq ?_
 refine hret _ _ _ ?_
 refine ⟨l2,rfl,?_⟩
 exact L7q r2 hg
set_option maxRecDepth 100000 in
theorem L6o {mn:Bool} {X:Frame→List Frame→Ro→Own→Cy→Prop} {ρ:Ro} {σ:Own} {r:GRule} {vr:Value} {l:List Span} {vl:Value} (rr:Val ρ vr r) (rl:Val ρ vl l) (hl:l.length = r.measures.length) (hn6:r.measures.length ≤ 6):CallsH (CX mn X) 45 #[vr,vl] ρ σ (fun w ρ' σ'=>Ro.le ρ ρ'∧σ' = σ∧Val ρ' w (L0y r l:List Gauge)):=by
 refine Bh (n:=29) (args:=[vr,vl]) [4] Tryz.func45 rfl rfl rfl rfl fun Q hret hnor=>?_
 refine w_q rfl rfl fun K1 k1=>?_
 refine Arv (Eb (v:=vr) rfl fun k2=>?_)
 refine Bb (a:=r) rr fun ρ2 l2 r2=>?_
 replace rl:=Asj l2 rl
 refine l_v (Cp (v:=(.slice none 0 0)) rfl) ?_
 refine Arx rfl rfl k1 fun K3 k3=>?_
 refine l_v (Cp (v:=(.slice none 0 0)) rfl) ?_
 refine Ary rfl rfl k3 fun K4 K5 k4 k5=>?_
 refine Arw (Ay GRule.f_measures Tryz.underlying25 rfl rfl L0g (by decide) rfl r2) fun v6 r6=>?_
 refine Arw (Ax L0g rfl r6) fun v7 r7=>?_
 have g8:=Val.len r7
 refine l_v (Ci (el:=39) Tryz.underlying22 rfl r7) ?_
 refine l_v (Ah (v:=(iV (0))) rfl) ?_
 refine l_k k5 ?_
 refine Ao ?_
 refine Cc (fun mm ee dd ρ' σ'=>∃ (i:Nat) (ov9_5:Value) (og9_5:Own),(r.measures.length - i) = mm∧[] = dd∧Ro.le ρ2 ρ'∧(og9_5 ++ σ) = σ'∧ee 1 = vl∧ee 9 = v7∧ee 10 = (iV (((r.measures.length:Nat):Int)))∧ee 5 = ov9_5∧ee 11 = (iV ((i:Int)))∧(i ≤ r.measures.length)∧Grow ρ' 134 ov9_5 ((List.range i).map (L2r r l)) og9_5∧True) (m:=_) ⟨0,(.slice none 0 0),[],rfl,rfl,Ash,rfl,rfl,rfl,rfl,rfl,rfl,(Nat.zero_le _),Hm,trivial⟩ ?_
 rintro m9 e9 _ ρ9 _ ⟨i,ov9_5,og9_5,rfl,rfl,l9,rfl,h9_1,h9_9,h9_10,h9_5,h9_11,p9_0,OG9_5,_⟩
 replace rl:=Asj l9 rl
 replace r7:=Asj l9 r7
 refine w_q rfl rfl fun K10 k10=>?_
 refine l_v (Da h9_11 h9_10) ?_
 refine Asa k10 fun K11 k11=>?_
 refine As (t:=decide ((i:Int) < ((r.measures.length:Nat):Int))) rfl (fun b12=>?_) (fun b12=>?_)
 ·have q12:=of_decide_eq_true b12
  refine Al ?_
  apply k11
  refine Ai fun K13 k13=>?_
  refine Ao ?_
  refine w_q rfl rfl fun K14 k14=>?_
  refine l_v (Ah (v:=(iV ((i:Int)))) h9_11) ?_
  obtain ⟨a16,ha16⟩:=Ed (xs:=r.measures) (i:=i) (by omega)
  refine Arw (Ch i Tryz.underlying22 L1f h9_9 r7 (q:=(i:Int)) h9_11 rfl ha16) fun v15 r15=>?_
  refine Arw (Ax L1f rfl r15) fun v17 r17=>?_
  refine Arv (Ct L5m fun k18=>?_)
  refine l_v (Cp (v:=(iV ((i:Int)))) rfl) ?_
  refine Cx rfl (Dv (v:=v17) (a:=a16) (c:=L5l) L1f rfl rfl r17 rfl ?_)
  refine Bb (a:=a16) r17 fun ρ19 l19 r19=>?_
  replace rl:=Asj l19 rl
  replace OG9_5:=Grow.mono l19 OG9_5
  refine l_k k14 ?_
  refine Dc [0,1,2,3,4,5,6,7,8,9,10,11] (by kernel_rfl) rfl rfl ?_
  refine Bd (i:=0) [o1,o0,o0,o0,o0,o0,o0,o0,o0,o0,o0,o0] rfl (by kernel_rfl) rfl Ash rfl (Ah (v:=ov9_5) h9_5) ?_
  refine Cd (i:=1) [o1,o1,o0,o0,o0,o0,o0,o0,o0,o0,o0,o0] rfl (by kernel_rfl) rfl Ash rfl (Ay Meas.f_points Tryz.underlying39 rfl rfl L0j (by decide) rfl r19) fun v20 r20=>?_
  refine Cd (i:=2) [o1,o1,o1,o0,o0,o0,o0,o0,o0,o0,o0,o0] rfl (by kernel_rfl) rfl Ash rfl (Ax L0j rfl r20) fun v21 r21=>?_
  have r22:Val ρ19 (.agg #[v21]) (⟨a16.points⟩:Scale):=Scale.shut (x:=(⟨a16.points⟩:Scale)) r21
  refine Bd (i:=3) [o1,o1,o1,o1,o0,o0,o0,o0,o0,o0,o0,o0] rfl (by kernel_rfl) rfl Ash rfl (Dn (ns:=[1]) (vs:=[(0,v21)]) (zc:=L8d) (cs:=[v21]) Tryz.underlying132 L8e rfl ⟨⟨_,Ab Tryz.typeInfo37,rfl⟩,trivial⟩ (EvB.map ⟨⟨rfl,rfl⟩,trivial⟩) ((Be (cs:=[v21]) (Val.cells_l r21) rfl (Nat.le_of_ble_eq_true rfl)).trans rfl)) ?_
  refine Bd (i:=4) [o1,o1,o1,o1,o1,o0,o0,o0,o0,o0,o0,o0] rfl (by kernel_rfl) rfl Ash rfl (Ah (v:=vl) h9_1) ?_
  refine Bg (i:=5) [o1,o1,o1,o1,o1,o1,o0,o0,o0,o0,o0,o0] rfl (by kernel_rfl) rfl Ash rfl (Ah (v:=(iV ((i:Int)))) rfl) ?_
  obtain ⟨a24,ha24⟩:=Ed (xs:=l) (i:=i) (by omega)
  refine Hk (i:=6) [o1,o1,o1,o1,o1,o1,o1,o0,o0,o0,o0,o0] rfl (by kernel_rfl) rfl Ash rfl (Ch i Tryz.underlying26 Mx rfl rl (q:=(i:Int)) rfl rfl ha24) fun v23 r23=>?_
  refine Hk (i:=7) [o1,o1,o1,o1,o1,o1,o1,o1,o0,o0,o0,o0] rfl (by kernel_rfl) rfl Ash rfl (Ax Mx rfl r23) fun v25 r25=>?_
  obtain ⟨e26_,⟨i26_1a,i26_1b⟩,⟨i26_2a,i26_2b⟩⟩:=Span.open_ r25
  have e26_c:v25.cells = [(iV (a24.low)),(iV (a24.high))].toArray:=by rw [e26_]; rfl
  have r27:Val ρ19 (.agg #[v21,(iV (a24.low)),(iV (a24.high))]) (⟨(⟨a16.points⟩:Scale),⟨a24.low,a24.high⟩⟩:Gauge):=Gauge.shut (x:=(⟨(⟨a16.points⟩:Scale),⟨a24.low,a24.high⟩⟩:Gauge)) r21 (show I64 (a24.low) from by constructor <;> omega) (show I64 (a24.high) from by constructor <;> omega)
  refine Bg (i:=8) Aoo rfl (by kernel_rfl) rfl Ash rfl (Dn (ns:=[1,2]) (vs:=[(0,(.agg #[v21])),(1,v25)]) (zc:=L7h) (cs:=[v21,(iV (a24.low)),(iV (a24.high))]) Tryz.underlying134 L5n rfl ⟨⟨_,Ab Tryz.typeInfo132,rfl⟩,⟨_,Ab Tryz.typeInfo41,rfl⟩,trivial⟩ (EvB.map ⟨⟨rfl,rfl⟩,⟨rfl,rfl⟩,trivial⟩) ((Be (cs:=[v21]) rfl rfl (Nat.le_of_ble_eq_true rfl)).trans ((Be (cs:=[(iV (a24.low)),(iV (a24.high))]) e26_c rfl (Nat.le_of_ble_eq_true rfl)).trans rfl))) ?_
  refine Dj (i:=9) Amg rfl (by kernel_rfl) rfl rfl (Bi (α:=Gauge) (xs:=[(⟨(⟨a16.points⟩:Scale),⟨a24.low,a24.high⟩⟩:Gauge)]) (vs:=[(.agg #[v21,(iV (a24.low)),(iV (a24.high))])]) Tryz.underlying129 L2i L5n rfl (by decide) (Dk (os:=[.tmp 24]) ⟨rfl,trivial⟩) ⟨r27,trivial⟩ rfl (by decide) fun k28 cs28 R28=>⟨Ash,?_⟩)
  have G28:Grow ρ19 134 (.slice (some ⟨k28,0,none⟩) 1 1) ([(⟨(⟨a16.points⟩:Scale),⟨a24.low,a24.high⟩⟩:Gauge)]:List Gauge) [(k28,oC cs28.toArray 134)]:=Bs R28 rfl (by decide)
  refine Lr G28 fun ρ30 l30 r30=>?_
  replace OG9_5:=Grow.mono l30 OG9_5
  refine Dj (i:=10) zZ0 rfl (by kernel_rfl) rfl rfl (Gc (σ:=σ) (gr:=og9_5) (xs:=(List.range i).map (L2r r l)) (ys:=([(⟨(⟨a16.points⟩:Scale),⟨a24.low,a24.high⟩⟩:Gauge)]:List Gauge)) Tryz.underlying129 Tryz.underlying129 (Ab Tryz.typeInfo134) rfl (Nat.le_of_ble_eq_true rfl) rfl rfl rfl rfl OG9_5 r30 (by simp only [List.length_append,List.length_map,List.length_range,List.length_cons,List.length_nil]; omega) fun v29 gr29 G29=>⟨l30,?_⟩)
  refine Bg (i:=11) zZ1 rfl (by kernel_rfl) rfl l30 rfl (Cp (v:=v29) rfl) ?_
  refine Ec rfl ?_
  apply k13
  refine Ag rfl rfl ?_
  refine l_v (Br h9_11 rfl (z:=(((i + 1):Nat):Int)) (Bo (by first | rfl | omega | (push_cast; rfl)) (by omega) (by omega))) ?_
  refine l_v (Ah (v:=(iV ((((i + 1):Nat):Int)))) rfl) ?_
  apply Ac
  refine ⟨_,?_,((i + 1)),v29,gr29,rfl,rfl,(Asi (Asi l9 l19) l30),rfl,h9_1,h9_9,h9_10,rfl,rfl,(by omega),(Fy (by rw [L2a]; congr 2; unfold L2r L4a; rw [ha16,L1v ha24]) G29),trivial⟩
  omega
 have q12:=of_decide_eq_false b12
 refine Bx ?_
 apply k4
 refine w_q rfl rfl fun K31 k31=>?_
 refine l_v (Ah (v:=ov9_5) h9_5) ?_
 refine l_v (Cp (v:=ov9_5) rfl) ?_
 refine l_k k31 ?_
 refine Hc OG9_5 fun ρ32 l32 r32=>?_
 refine Aq ?_
 refine hret _ _ _ ?_
 refine ⟨(Asi (Asi l2 l9) l32),rfl,Abz (v:=ov9_5) rfl (Val.cast ?_ r32)⟩
 ·rw [L0y,show r.measures.length = i by omega]
set_option maxHeartbeats 1000000 in
set_option maxRecDepth 100000 in
theorem L6c {mn:Bool} {X:Frame→List Frame→Ro→Own→Cy→Prop} {ρ:Ro} {σ:Own} {r:GRule} {vr:Value} {l:List Span} {vl:Value} (rr:Val ρ vr r) (rl:Val ρ vl l):CallsH (CX mn X) 12 #[vr,vl] ρ σ (fun w ρ' σ'=>Ro.le ρ ρ'∧σ' = σ∧∃ v0,w = (.tuple #[v0,(iV (L0f r l))])∧Val ρ' v0 (L0a r l:List Span)):=by
 refine L6g (n:=60) (args:=[vr,vl]) [4,5] Tryz.func12 rfl rfl rfl rfl fun Q hret hnor=>?_
 refine w_q rfl rfl fun K1 k1=>?_
 refine Arv (Eb (v:=vr) rfl fun k2=>?_)
 refine Bb (a:=r) rr fun ρ2 l2 r2=>?_
 replace rl:=Asj l2 rl
 refine l_v (Cp (v:=(.slice none 0 0)) rfl) ?_
 refine l_v (Cp (v:=(iV (0))) rfl) ?_
 refine Ary rfl rfl k1 fun K3 K4 k3 k4=>?_
 refine Arw (Ax L1e rfl r2) fun v5 r5=>?_
 refine l_v (Ah (v:=vl) rfl) ?_
 refine Arv (Bm (L6n r5 rl) Tryz.func44 rfl rfl ⟨rfl,rfl,trivial⟩ ?_)
 refine l_v (Cp (v:=(iV (L0f r l))) rfl) ?_
 refine Arx rfl rfl k4 fun K6 k6=>?_
 refine l_v (Ah (v:=(iV (L0f r l))) rfl) ?_
 refine l_v (Dg rfl rfl) ?_
 refine l_k k6 ?_
 refine As (t:=L0f r l != 0) rfl (fun b7=>?_) (fun b7=>?_)
 ·have q7:=Ls b7
  refine w_q rfl rfl fun K8 k8=>?_
  refine l_v (Ah (v:=(iV (L0f r l))) rfl) ?_
  refine l_v (Cp (v:=(.slice none 0 0)) rfl) ?_
  refine l_v (Cp (v:=(iV (L0f r l))) rfl) ?_
  refine l_k k8 ?_
  refine Aq ?_
  refine hret _ _ _ ([]) ?_
  refine ⟨l2,rfl,(.slice none 0 0),Eq.trans (b:=(.tuple #[(.slice none 0 0),(iV (L0f r l))])) (Mp (r:=4) (r':=5) (rs:=[]) (v:=(.slice none 0 0)) (v':=(iV (L0f r l))) (vs:=[]) ⟨rfl,rfl,trivial⟩) ?_,Val.cast ?_ Gx⟩
  ·rfl
  ·rw [L0a,if_neg q7]
 have hr0:=Jh b7
 obtain ⟨hr1,hr2⟩:=L1u.1 hr0
 have rok:=L3c hr1
 have hl:=hr2.len
 have hn6:=rok.n6
 have hgl:(L0y r l).length = r.measures.length:=by simp [L0y]
 have q7:=Jh b7
 refine Al ?_
 apply k3
 refine w_q rfl rfl fun K9 k9=>?_
 refine l_v (Cp (v:=(.slice none 0 0)) rfl) ?_
 refine Ary rfl rfl k9 fun K10 K11 k10 k11=>?_
 refine Arw (Ax L1e rfl r2) fun v12 r12=>?_
 refine l_v (Ah (v:=vl) rfl) ?_
 refine Arv (Cm (vs:=[v12,vl]) (L6o r12 rl (by omega) (by omega)) Tryz.func45 rfl rfl ⟨rfl,rfl,trivial⟩ fun v13 ρ13 σ13 hc13=>?_)
 obtain ⟨l13,s13,r13⟩:=hc13
 replace s13:=s13.symm; subst s13
 have g14:=Val.len r13
 refine l_v (Ci (el:=134) Tryz.underlying129 rfl r13) ?_
 refine l_v (Ah (v:=(iV (0))) rfl) ?_
 refine l_k k11 ?_
 refine Ao ?_
 refine Cc (fun mm ee dd ρ' σ'=>∃ (i:Nat) (ms15:List Nat) (ov15_7:Value) (og15_7:Own),((L0y r l).length - i) = mm∧(L4m ms15) = dd∧Ro.le ρ13 ρ'∧(og15_7 ++ ((L0d ms15) ++ σ)) = σ'∧ee 22 = v13∧ee 23 = (iV ((((L0y r l).length:Nat):Int)))∧ee 7 = ov15_7∧ee 24 = (iV ((i:Int)))∧(i ≤ (L0y r l).length)∧Grow ρ' 41 ov15_7 (L0u r l i) og15_7∧True) (m:=_) ⟨0,[],(.slice none 0 0),[],rfl,rfl,Ash,rfl,rfl,rfl,rfl,rfl,(Nat.zero_le _),Hm,trivial⟩ ?_
 rintro m15 e15 _ ρ15 _ ⟨i,ms15,ov15_7,og15_7,rfl,rfl,l15,rfl,h15_22,h15_23,h15_7,h15_24,p15_0,OG15_7,_⟩
 replace r13:=Asj l15 r13
 refine w_q rfl rfl fun K16 k16=>?_
 refine l_v (Da h15_24 h15_23) ?_
 refine Asa k16 fun K17 k17=>?_
 refine As (t:=decide ((i:Int) < (((L0y r l).length:Nat):Int))) rfl (fun b18=>?_) (fun b18=>?_)
 ·have q18:=of_decide_eq_true b18
  refine Al ?_
  apply k17
  refine Ai fun K19 k19=>?_
  refine Ao ?_
  refine w_q rfl rfl fun K20 k20=>?_
  obtain ⟨a22,ha22⟩:=Ed (xs:=L0y r l) (i:=i) (by omega)
  obtain ⟨hge,hgo⟩:=L6t hr0 ha22
  obtain ⟨ok,hg1,hg2,hg3⟩:=id hgo
  have hng:nG a22 = (a22.reads.high - a22.reads.low + 1).toNat:=rfl
  have hr00:=L3e ok (n:=a22.reads.low) (by omega)
  have hdb0:=L1q hr00
  have hub0:=L4r hr00
  refine Arw (Ch i Tryz.underlying129 L2i h15_22 r13 (q:=(i:Int)) h15_24 rfl ha22) fun v21 r21=>?_
  refine Arw (Ax L2i rfl r21) fun v23 r23=>?_
  refine Arv (Ct L5n fun k24=>?_)
  refine Cx rfl (Dv (v:=v23) (a:=a22) (c:=L7h) L2i rfl rfl r23 rfl ?_)
  refine Bb (a:=a22) r23 fun ρ25 l25 r25=>?_
  replace OG15_7:=Grow.mono l25 OG15_7
  refine Arx rfl rfl k20 fun K26 k26=>?_
  refine Arw (Ay Gauge.f_scale Tryz.underlying134 rfl rfl L4q (by decide) rfl r25) fun v27 r27=>?_
  refine Arw (Ax L4q rfl r27) fun v28 r28=>?_
  refine Arw (Ay Gauge.f_reads Tryz.underlying134 rfl rfl Mx (by decide) rfl r25) fun v29 r29=>?_
  refine Arw (Ay Span.f_low Tryz.underlying41 rfl rfl ty3 (by decide) rfl r29) fun v30 r30=>?_
  have ⟨g31a,g31b⟩:=At.rng r30
  refine l_v (Bc ty3 rfl r30) ?_
  refine Arv (Cm (vs:=[v28,(iV (a22.reads.low))]) (L5p r28 ok (by omega)) Tryz.func46 rfl rfl ⟨rfl,rfl,trivial⟩ fun v32 ρ32 σ32 hc32=>?_)
  obtain ⟨l32,s32,r32⟩:=hc32
  replace s32:=s32.symm; subst s32
  replace OG15_7:=Grow.mono l32 OG15_7
  replace r25:=At.mono l32 r25
  refine Arv (Ct L1p fun k33=>?_)
  refine Cx rfl (Dv (v:=v32) (a:=L0b a22.scale.points a22.reads.low) (c:=L1z) L1h rfl rfl r32 rfl ?_)
  refine Bb (a:=L0b a22.scale.points a22.reads.low) r32 fun ρ34 l34 r34=>?_
  replace OG15_7:=Grow.mono l34 OG15_7
  replace r25:=At.mono l34 r25
  refine Asa k26 fun K35 k35=>?_
  refine Dc [0,1,2,3,4,5,6] (by kernel_rfl) rfl rfl ?_
  refine Cd (i:=0) Apb rfl (by kernel_rfl) rfl Ash rfl (Ax L1h rfl r34) fun v36 r36=>?_
  refine Cd (i:=2) [o1,o0,o1,o0,o0,o0,o0] rfl (by kernel_rfl) rfl Ash rfl (Ax L1h rfl r34) fun v37 r37=>?_
  refine Acq (i:=1) (j:=5) [o1,o1,o1,o0,o0,o0,o0] [o1,o0,o1,o0,o0,o1,o0] rfl rfl (by kernel_rfl) rfl rfl rfl rfl ?_ ?_
  ·refine Bm (vs:=[v36]) (v:=(iV (L0c (L0b a22.scale.points a22.reads.low)))) (L2o r36 hr00) Tryz.func47 rfl rfl ⟨rfl,trivial⟩ ⟨Ash,?_⟩
   refine Acq (i:=3) (j:=5) Apc [o1,o1,o1,o0,o0,o1,o0] rfl rfl (by kernel_rfl) rfl rfl rfl rfl ?_ ?_
   ·refine Bm (vs:=[v37]) (v:=(iV (upI (L0b a22.scale.points a22.reads.low)))) (L6f r37 hr00) Tryz.func48 rfl rfl ⟨rfl,trivial⟩ ⟨Ash,?_⟩
    have r38:Val ρ34 (.agg #[(iV (L0c (L0b a22.scale.points a22.reads.low))),(iV (upI (L0b a22.scale.points a22.reads.low)))]) (⟨L0c (L0b a22.scale.points a22.reads.low),upI (L0b a22.scale.points a22.reads.low)⟩:Span):=Span.shut (x:=(⟨L0c (L0b a22.scale.points a22.reads.low),upI (L0b a22.scale.points a22.reads.low)⟩:Span)) (show I64 (L0c (L0b a22.scale.points a22.reads.low)) from by constructor <;> omega) (show I64 (upI (L0b a22.scale.points a22.reads.low)) from by constructor <;> omega)
    refine Bd (i:=4) Apd rfl (by kernel_rfl) rfl Ash rfl (Dn (ns:=[1,1]) (vs:=[(0,(iV (L0c (L0b a22.scale.points a22.reads.low)))),(1,(iV (upI (L0b a22.scale.points a22.reads.low))))]) (zc:=Arm) (cs:=[(iV (L0c (L0b a22.scale.points a22.reads.low))),(iV (upI (L0b a22.scale.points a22.reads.low)))]) Tryz.underlying41 Aak rfl ⟨⟨_,Ab Tryz.typeInfo3,rfl⟩,⟨_,Ab Tryz.typeInfo3,rfl⟩,trivial⟩ (EvB.map ⟨⟨rfl,rfl⟩,⟨rfl,rfl⟩,trivial⟩) ((Be (cs:=[(iV (L0c (L0b a22.scale.points a22.reads.low)))]) rfl rfl (Nat.le_of_ble_eq_true rfl)).trans ((Be (cs:=[(iV (upI (L0b a22.scale.points a22.reads.low)))]) rfl rfl (Nat.le_of_ble_eq_true rfl)).trans rfl))) ?_
    refine Dj (i:=5) Ape rfl (by kernel_rfl) rfl rfl (Ct Aak fun k39=>⟨Ash,?_⟩)
    refine Fg (i:=6) Apf rfl (by kernel_rfl) rfl rfl (Li (i:=0) (vs:=[(iV (L0c (L0b a22.scale.points a22.reads.low))),(iV (upI (L0b a22.scale.points a22.reads.low)))]) (c':=[(iV (L0c (L0b a22.scale.points a22.reads.low))),(iV (upI (L0b a22.scale.points a22.reads.low)))]) ⟨_,Ab Tryz.typeInfo41,rfl⟩ rfl rfl rfl rfl (Zh ⟨rfl,rfl,trivial⟩) rfl (Nat.le_of_ble_eq_true rfl) rfl ⟨Ash,?_⟩)
    refine Ec rfl ?_
    apply k35
    refine Asb rfl rfl fun K40 K41 k40 k41=>?_
    refine Arw (Ax L2i rfl r25) fun v42 r42=>?_
    refine Arv (Cm (vs:=[v42]) (L2e r42 hgo) Tryz.func49 rfl rfl ⟨rfl,trivial⟩ fun v43 ρ43 σ43 hc43=>?_)
    obtain ⟨l43,s43,r43⟩:=hc43
    replace s43:=s43.symm; subst s43
    replace OG15_7:=Grow.mono l43 OG15_7
    refine l_k k41 ?_
    refine Ao ?_
    refine L1n (ys:=(List.range (nG a22)).map (L2b a22.scale.points a22.reads.low)) (fun pre ρ' τ=>∃ (l1:List Nat) (lo:Int) (hi:Int),pre = l1.map (L2b a22.scale.points a22.reads.low)∧((k39,oC #[(iV (lo)),(iV (hi))] 41) :: (og15_7 ++ ((L0d ms15) ++ σ))) = τ∧((⟨lo,hi⟩:Span) = L3o a22.scale.points a22.reads.low l1)∧(-20000000 ≤ lo∧lo ≤ 20000000∧-20000000 ≤ hi∧hi ≤ 20000000)∧True) rfl rfl (Nat.le_of_ble_eq_true rfl) (Nat.le_of_ble_eq_true rfl) rfl r43 ?_ ?_ ?_ ?_
    ·exact fun _ _ _ _ _ h=>h
    ·exact ⟨[],L0c (L0b a22.scale.points a22.reads.low),upI (L0b a22.scale.points a22.reads.low),rfl,rfl,rfl,(by omega),trivial⟩
    ·rintro l44_ _ x44 post44 ρ44 _ hys44 l44 ⟨l1,lo,hi,rfl,rfl,p44_0,p44_1,_⟩ pfx44
     obtain ⟨a44,l2_44,hl44,rfl⟩:=L2f L1r hys44
     refine Aj (σ':=((k39,Res.obj (Obj.cells #[(iV (lo)),(iV (hi))] 41 (0,0))) :: (og15_7 ++ ((L0d ms15) ++ (pfx44 ++ σ))))) (Asg (by first | exact Fe pfx44 (([(k39,Res.obj (Obj.cells #[(iV (lo)),(iV (hi))] 41 (0,0)))] ++ (og15_7 ++ (L0d ms15)))) σ | simpa only [List.append_assoc,List.cons_append,List.nil_append,List.set_cons_zero] using Fe pfx44 (([(k39,Res.obj (Obj.cells #[(iV (lo)),(iV (hi))] 41 (0,0)))] ++ (og15_7 ++ (L0d ms15)))) σ)) ?_
     have hax:a44 < nG a22:=List.mem_range.1 (by rw [hl44]; simp)
     have hvo:=L3e ok (n:=a22.reads.low + (a44:Int)) (by omega)
     have hdb:=L1q hvo
     have hub:=L4r hvo
     refine Ag rfl rfl ?_
     refine Arv (Ct L1p fun k45=>?_)
     refine Cx rfl (Dv (v:=(L4p (L0b a22.scale.points (a22.reads.low + (a44:Int))))) (a:=L0b a22.scale.points (a22.reads.low + (a44:Int))) (c:=L1z) L1h rfl rfl (L1t hvo) rfl ?_)
     refine Bb (a:=L0b a22.scale.points (a22.reads.low + (a44:Int))) (L1t hvo) fun ρ46 l46 r46=>?_
     refine Bj (σ':=pfx44 ++ ((k39,Res.obj (Obj.cells #[(iV (lo)),(iV (hi))] 41 (0,0))) :: (og15_7 ++ ((L0d ms15) ++ σ)))) (Asg (by first | exact Fe (([(k39,Res.obj (Obj.cells #[(iV (lo)),(iV (hi))] 41 (0,0)))] ++ (og15_7 ++ (L0d ms15)))) pfx44 σ | simpa only [List.append_assoc,List.cons_append,List.nil_append,List.set_cons_zero] using Fe (([(k39,Res.obj (Obj.cells #[(iV (lo)),(iV (hi))] 41 (0,0)))] ++ (og15_7 ++ (L0d ms15)))) pfx44 σ)) ?_
     apply Ac
     refine ⟨rfl,rfl,l46,_,rfl,?_⟩
     intro pfy44
     refine Aj (σ':=((k39,Res.obj (Obj.cells #[(iV (lo)),(iV (hi))] 41 (0,0))) :: (og15_7 ++ ((L0d ms15) ++ (pfy44 ++ σ))))) (Asg (by first | exact Fe pfy44 (([(k39,Res.obj (Obj.cells #[(iV (lo)),(iV (hi))] 41 (0,0)))] ++ (og15_7 ++ (L0d ms15)))) σ | simpa only [List.append_assoc,List.cons_append,List.nil_append,List.set_cons_zero] using Fe pfy44 (([(k39,Res.obj (Obj.cells #[(iV (lo)),(iV (hi))] 41 (0,0)))] ++ (og15_7 ++ (L0d ms15)))) σ)) ?_
     refine Ao ?_
     refine Aab ?_
     refine L2z (((k39,oC #[(iV (lo)),(iV (hi))] 41) :: (og15_7 ++ ((L0d ms15) ++ [])))) [0,1,2,3,4,5,6,7,8,9,10] (by kernel_rfl) rfl rfl ?_
     refine L1a (i:=0) [o1,o0,o0,o0,o0,o0,o0,o0,o0,o0,o0,o0] rfl (by kernel_rfl) rfl ⟨Ash,(by repeat first | exact L0o | refine L0l ?_ | refine L0m ?_ | refine L0k ?_ | refine L0n ?_)⟩ rfl (Yld.o (Cb Tryz.underlying41 rfl rfl ⟨_,Ab Tryz.typeInfo3,rfl⟩ (by decide) rfl rfl)) ?_
     refine L1a (i:=1) [o1,o1,o0,o0,o0,o0,o0,o0,o0,o0,o0,o0] rfl (by kernel_rfl) rfl ⟨Ash,(by repeat first | exact L0o | refine L0l ?_ | refine L0m ?_ | refine L0k ?_ | refine L0n ?_)⟩ rfl (L1k (v:=(iV (lo))) ⟨_,Tryz.underlying3,rfl⟩ rfl (List.mem_cons_self ..) rfl) ?_
     refine L2c (i:=2) [o1,o1,o1,o0,o0,o0,o0,o0,o0,o0,o0,o0] rfl (by kernel_rfl) rfl ⟨Ash,(by repeat first | exact L0o | refine L0l ?_ | refine L0m ?_ | refine L0k ?_ | refine L0n ?_)⟩ rfl (L1o (Ax L1h rfl r46)) fun v47 r47=>?_
     refine L1a (i:=5) [o1,o1,o1,o0,o0,o1,o0,o0,o0,o0,o0,o0] rfl (by kernel_rfl) rfl ⟨Ash,(by repeat first | exact L0o | refine L0l ?_ | refine L0m ?_ | refine L0k ?_ | refine L0n ?_)⟩ rfl (Yld.o (Cb Tryz.underlying41 rfl rfl ⟨_,Ab Tryz.typeInfo3,rfl⟩ (by decide) rfl rfl)) ?_
     refine L1a (i:=6) [o1,o1,o1,o0,o0,o1,o1,o0,o0,o0,o0,o0] rfl (by kernel_rfl) rfl ⟨Ash,(by repeat first | exact L0o | refine L0l ?_ | refine L0m ?_ | refine L0k ?_ | refine L0n ?_)⟩ rfl (L1k (v:=(iV (hi))) ⟨_,Tryz.underlying3,rfl⟩ rfl (List.mem_cons_self ..) rfl) ?_
     refine L2c (i:=7) [o1,o1,o1,o0,o0,o1,o1,o1,o0,o0,o0,o0] rfl (by kernel_rfl) rfl ⟨Ash,(by repeat first | exact L0o | refine L0l ?_ | refine L0m ?_ | refine L0k ?_ | refine L0n ?_)⟩ rfl (L1o (Ax L1h rfl r46)) fun v48 r48=>?_
     refine L2m (i:=3) [o1,o1,o1,o1,o0,o1,o1,o1,o0,o0,o0,o0] rfl (by kernel_rfl) rfl rfl (Bm (L2o r47 hvo) Tryz.func47 rfl rfl ⟨rfl,trivial⟩ ⟨⟨Ash,(by repeat first | exact L0o | refine L0l ?_ | refine L0m ?_ | refine L0k ?_ | refine L0n ?_)⟩,?_⟩)
     refine L1a (i:=4) [o1,o1,o1,o1,o1,o1,o1,o1,o0,o0,o0,o0] rfl (by kernel_rfl) rfl ⟨Ash,(by repeat first | exact L0o | refine L0l ?_ | refine L0m ?_ | refine L0k ?_ | refine L0n ?_)⟩ rfl (Yld.o (Ajx (p:=lo) (q:=L0c (L0b a22.scale.points (a22.reads.low + (a44:Int)))) rfl rfl)) ?_
     refine L2m (i:=8) Aoo rfl (by kernel_rfl) rfl rfl (Bm (L6f r48 hvo) Tryz.func48 rfl rfl ⟨rfl,trivial⟩ ⟨⟨Ash,(by repeat first | exact L0o | refine L0l ?_ | refine L0m ?_ | refine L0k ?_ | refine L0n ?_)⟩,?_⟩)
     refine L1l (i:=9) Amg rfl (by kernel_rfl) rfl ⟨Ash,(by repeat first | exact L0o | refine L0l ?_ | refine L0m ?_ | refine L0k ?_ | refine L0n ?_)⟩ rfl (Yld.o (Aqf (p:=hi) (q:=upI (L0b a22.scale.points (a22.reads.low + (a44:Int)))) rfl rfl)) ⟨Ash,(by repeat first | exact L0o | refine L0l ?_ | refine L0m ?_ | refine L0k ?_ | refine L0n ?_)⟩ ?_
     have r49:Val ρ46 (.agg #[(iV ((min lo (L0c (L0b a22.scale.points (a22.reads.low + (a44:Int))))))),(iV ((max hi (upI (L0b a22.scale.points (a22.reads.low + (a44:Int)))))))]) (⟨(min lo (L0c (L0b a22.scale.points (a22.reads.low + (a44:Int))))),(max hi (upI (L0b a22.scale.points (a22.reads.low + (a44:Int)))))⟩:Span):=Span.shut (x:=(⟨(min lo (L0c (L0b a22.scale.points (a22.reads.low + (a44:Int))))),(max hi (upI (L0b a22.scale.points (a22.reads.low + (a44:Int)))))⟩:Span)) (show I64 ((min lo (L0c (L0b a22.scale.points (a22.reads.low + (a44:Int)))))) from by constructor <;> omega) (show I64 ((max hi (upI (L0b a22.scale.points (a22.reads.low + (a44:Int)))))) from by constructor <;> omega)
     refine L1l (i:=10) zZ0 rfl (by kernel_rfl) rfl ⟨Ash,(by repeat first | exact L0o | refine L0l ?_ | refine L0m ?_ | refine L0k ?_ | refine L0n ?_)⟩ rfl (Yld.o (Dn (ns:=[1,1]) (vs:=[(0,(iV ((min lo (L0c (L0b a22.scale.points (a22.reads.low + (a44:Int)))))))),(1,(iV ((max hi (upI (L0b a22.scale.points (a22.reads.low + (a44:Int))))))))]) (zc:=Arm) (cs:=[(iV ((min lo (L0c (L0b a22.scale.points (a22.reads.low + (a44:Int))))))),(iV ((max hi (upI (L0b a22.scale.points (a22.reads.low + (a44:Int)))))))]) Tryz.underlying41 Aak rfl ⟨⟨_,Ab Tryz.typeInfo3,rfl⟩,⟨_,Ab Tryz.typeInfo3,rfl⟩,trivial⟩ (EvB.map ⟨⟨rfl,rfl⟩,⟨rfl,rfl⟩,trivial⟩) ((Be (cs:=[(iV ((min lo (L0c (L0b a22.scale.points (a22.reads.low + (a44:Int)))))))]) rfl rfl (Nat.le_of_ble_eq_true rfl)).trans ((Be (cs:=[(iV ((max hi (upI (L0b a22.scale.points (a22.reads.low + (a44:Int)))))))]) rfl rfl (Nat.le_of_ble_eq_true rfl)).trans rfl)))) ⟨Ash,(by repeat first | exact L0o | refine L0l ?_ | refine L0m ?_ | refine L0k ?_ | refine L0n ?_)⟩ ?_
     refine L3a (i:=11) zZ1 rfl (by kernel_rfl) (by kernel_rfl) rfl rfl (Li (i:=0) (vs:=[(iV ((min lo (L0c (L0b a22.scale.points (a22.reads.low + (a44:Int))))))),(iV ((max hi (upI (L0b a22.scale.points (a22.reads.low + (a44:Int)))))))]) (c':=[(iV ((min lo (L0c (L0b a22.scale.points (a22.reads.low + (a44:Int))))))),(iV ((max hi (upI (L0b a22.scale.points (a22.reads.low + (a44:Int)))))))]) ⟨_,Ab Tryz.typeInfo41,rfl⟩ rfl rfl rfl rfl (Zh ⟨rfl,rfl,trivial⟩) rfl (Nat.le_of_ble_eq_true rfl) rfl ?_)
     refine L5v rfl ?_
     show Vl _ .normal _ _ _ _
     refine Yn (σ':=pfy44 ++ ((k39,Res.obj (Obj.cells #[(iV ((min lo (L0c (L0b a22.scale.points (a22.reads.low + (a44:Int))))))),(iV ((max hi (upI (L0b a22.scale.points (a22.reads.low + (a44:Int)))))))] 41 (0,0))) :: (og15_7 ++ ((L0d ms15) ++ σ)))) (Asg (by simpa only [List.append_assoc,List.cons_append,List.nil_append,List.set_cons_zero,List.set_cons_succ] using Fe (([(k39,Res.obj (Obj.cells #[(iV ((min lo (L0c (L0b a22.scale.points (a22.reads.low + (a44:Int))))))),(iV ((max hi (upI (L0b a22.scale.points (a22.reads.low + (a44:Int)))))))] 41 (0,0)))] ++ (og15_7 ++ (L0d ms15)))) pfy44 σ)) ?_
     refine Adc ?_
     refine ⟨rfl,Ash,_,rfl,l1 ++ [a44],((min lo (L0c (L0b a22.scale.points (a22.reads.low + (a44:Int)))))),((max hi (upI (L0b a22.scale.points (a22.reads.low + (a44:Int)))))),(by simp),rfl,(by rw [L2v,← p44_0]),(by omega),trivial⟩
    ·rintro k50 ρ50 _ l50 ⟨l1,lo,hi,hpre50,rfl,p44_0,p44_1,_⟩
     obtain rfl:=L2t L1r hpre50
     replace OG15_7:=Grow.mono l50 OG15_7
     apply k40
     refine Aj (σ':=((k39,Res.obj (Obj.cells #[(iV (lo)),(iV (hi))] 41 (0,0))) :: (og15_7 ++ ((L0d (k50 :: ms15)) ++ σ)))) (Asg (by first | exact Fe [(k50,Res.obj (Obj.deferred (some [])))] (([(k39,Res.obj (Obj.cells #[(iV (lo)),(iV (hi))] 41 (0,0)))] ++ og15_7)) ((L0d ms15) ++ σ) | simpa only [List.append_assoc,List.cons_append,List.nil_append,List.set_cons_zero] using Fe [(k50,Res.obj (Obj.deferred (some [])))] (([(k39,Res.obj (Obj.cells #[(iV (lo)),(iV (hi))] 41 (0,0)))] ++ og15_7)) ((L0d ms15) ++ σ))) ?_
     refine Ag rfl rfl ?_
     refine l_v (Ah (v:=ov15_7) h15_7) ?_
     refine Arv (Xo (i:=0) (cs:=[(iV (lo)),(iV (hi))]) (rs:=[]) ⟨_,Tryz.underlying41,rfl⟩ ⟨_,Ab Tryz.typeInfo41,rfl⟩ rfl rfl rfl rfl ?_)
     have r51:Val ρ50 (.agg #[(iV (lo)),(iV (hi))]) (⟨lo,hi⟩:Span):=Span.shut (x:=(⟨lo,hi⟩:Span)) (show I64 (lo) from by constructor <;> omega) (show I64 (hi) from by constructor <;> omega)
     refine Arv (Bi (α:=Span) (xs:=[(⟨lo,hi⟩:Span)]) (vs:=[(.agg #[(iV (lo)),(iV (hi))])]) Tryz.underlying26 Mx Aak rfl (by decide) (Dk (os:=[.tmp 55]) ⟨rfl,trivial⟩) ⟨r51,trivial⟩ rfl (by decide) fun k52 cs52 R52=>?_)
     have G52:Grow ρ50 41 (.slice (some ⟨k52,0,none⟩) 1 1) ([(⟨lo,hi⟩:Span)]:List Span) [(k52,oC cs52.toArray 41)]:=Bs R52 rfl (by decide)
     refine Ca G52 fun ρ54 l54 r54=>?_
     replace OG15_7:=Grow.mono l54 OG15_7
     refine Bj (Asg Asc) ?_
     refine Arv (Gc (σ:=((k39,oC #[(iV (lo)),(iV (hi))] 41) :: ((L0d (k50 :: ms15)) ++ σ))) (gr:=og15_7) (xs:=L0u r l i) (ys:=([(⟨lo,hi⟩:Span)]:List Span)) Tryz.underlying26 Tryz.underlying26 (Ab Tryz.typeInfo41) rfl (Nat.le_of_ble_eq_true rfl) rfl rfl rfl rfl OG15_7 r54 (by simp only [List.length_append,List.length_cons,List.length_nil,L0u,List.length_map,List.length_range]; omega) fun v53 gr53 G53=>?_)
     refine l_v (Cp (v:=v53) rfl) ?_
     refine l_k k19 ?_
     refine Ag rfl rfl ?_
     refine l_v (Br h15_24 rfl (z:=(((i + 1):Nat):Int)) (Bo (by first | rfl | omega | (push_cast; rfl)) (by omega) (by omega))) ?_
     refine l_v (Ah (v:=(iV ((((i + 1):Nat):Int)))) rfl) ?_
     refine Bj (Asg Asd) ?_
     refine Bj Ghost.drop ?_
     apply Ac
     refine ⟨_,?_,((i + 1)),((k50 :: ms15)),v53,gr53,rfl,rfl,(Asi (Asi (Asi (Asi (Asi (Asi l15 l25) l32) l34) l43) l50) l54),rfl,h15_22,h15_23,rfl,rfl,(by omega),(Fy (by rw [L1m,p44_0]; congr 2; subst hge; rfl) G53),trivial⟩
     omega
   ·refine Ct Aak fun k55=>⟨Ash,?_⟩
    refine Dj (i:=3) [o1,o1,o1,o1,o0,o1,o0] rfl (by kernel_rfl) rfl rfl (Bm (L6f r37 hr00) Tryz.func48 rfl rfl ⟨rfl,trivial⟩ ⟨Ash,?_⟩)
    have r56:Val ρ34 (.agg #[(iV (L0c (L0b a22.scale.points a22.reads.low))),(iV (upI (L0b a22.scale.points a22.reads.low)))]) (⟨L0c (L0b a22.scale.points a22.reads.low),upI (L0b a22.scale.points a22.reads.low)⟩:Span):=Span.shut (x:=(⟨L0c (L0b a22.scale.points a22.reads.low),upI (L0b a22.scale.points a22.reads.low)⟩:Span)) (show I64 (L0c (L0b a22.scale.points a22.reads.low)) from by constructor <;> omega) (show I64 (upI (L0b a22.scale.points a22.reads.low)) from by constructor <;> omega)
    refine Bg (i:=4) Ape rfl (by kernel_rfl) rfl Ash rfl (Dn (ns:=[1,1]) (vs:=[(0,(iV (L0c (L0b a22.scale.points a22.reads.low)))),(1,(iV (upI (L0b a22.scale.points a22.reads.low))))]) (zc:=Arm) (cs:=[(iV (L0c (L0b a22.scale.points a22.reads.low))),(iV (upI (L0b a22.scale.points a22.reads.low)))]) Tryz.underlying41 Aak rfl ⟨⟨_,Ab Tryz.typeInfo3,rfl⟩,⟨_,Ab Tryz.typeInfo3,rfl⟩,trivial⟩ (EvB.map ⟨⟨rfl,rfl⟩,⟨rfl,rfl⟩,trivial⟩) ((Be (cs:=[(iV (L0c (L0b a22.scale.points a22.reads.low)))]) rfl rfl (Nat.le_of_ble_eq_true rfl)).trans ((Be (cs:=[(iV (upI (L0b a22.scale.points a22.reads.low)))]) rfl rfl (Nat.le_of_ble_eq_true rfl)).trans rfl))) ?_
    refine Fg (i:=6) Apf rfl (by kernel_rfl) rfl rfl (Li (i:=0) (vs:=[(iV (L0c (L0b a22.scale.points a22.reads.low))),(iV (upI (L0b a22.scale.points a22.reads.low)))]) (c':=[(iV (L0c (L0b a22.scale.points a22.reads.low))),(iV (upI (L0b a22.scale.points a22.reads.low)))]) ⟨_,Ab Tryz.typeInfo41,rfl⟩ rfl rfl rfl rfl (Zh ⟨rfl,rfl,trivial⟩) rfl (Nat.le_of_ble_eq_true rfl) rfl ⟨Ash,?_⟩)
    refine Ec rfl ?_
    apply k35
    refine Asb rfl rfl fun K57 K58 k57 k58=>?_
    refine Arw (Ax L2i rfl r25) fun v59 r59=>?_
    refine Arv (Cm (vs:=[v59]) (L2e r59 hgo) Tryz.func49 rfl rfl ⟨rfl,trivial⟩ fun v60 ρ60 σ60 hc60=>?_)
    obtain ⟨l60,s60,r60⟩:=hc60
    replace s60:=s60.symm; subst s60
    replace OG15_7:=Grow.mono l60 OG15_7
    refine l_k k58 ?_
    refine Ao ?_
    refine L1n (ys:=(List.range (nG a22)).map (L2b a22.scale.points a22.reads.low)) (fun pre ρ' τ=>∃ (l1:List Nat) (lo:Int) (hi:Int),pre = l1.map (L2b a22.scale.points a22.reads.low)∧((k55,oC #[(iV (lo)),(iV (hi))] 41) :: (og15_7 ++ ((L0d ms15) ++ σ))) = τ∧((⟨lo,hi⟩:Span) = L3o a22.scale.points a22.reads.low l1)∧(-20000000 ≤ lo∧lo ≤ 20000000∧-20000000 ≤ hi∧hi ≤ 20000000)∧True) rfl rfl (Nat.le_of_ble_eq_true rfl) (Nat.le_of_ble_eq_true rfl) rfl r60 ?_ ?_ ?_ ?_
    ·exact fun _ _ _ _ _ h=>h
    ·exact ⟨[],L0c (L0b a22.scale.points a22.reads.low),upI (L0b a22.scale.points a22.reads.low),rfl,rfl,rfl,(by omega),trivial⟩
    ·rintro l61_ _ x61 post61 ρ61 _ hys61 l61 ⟨l1,lo,hi,rfl,rfl,p61_0,p61_1,_⟩ pfx61
     obtain ⟨a61,l2_61,hl61,rfl⟩:=L2f L1r hys61
     refine Aj (σ':=((k55,Res.obj (Obj.cells #[(iV (lo)),(iV (hi))] 41 (0,0))) :: (og15_7 ++ ((L0d ms15) ++ (pfx61 ++ σ))))) (Asg (by first | exact Fe pfx61 (([(k55,Res.obj (Obj.cells #[(iV (lo)),(iV (hi))] 41 (0,0)))] ++ (og15_7 ++ (L0d ms15)))) σ | simpa only [List.append_assoc,List.cons_append,List.nil_append,List.set_cons_zero] using Fe pfx61 (([(k55,Res.obj (Obj.cells #[(iV (lo)),(iV (hi))] 41 (0,0)))] ++ (og15_7 ++ (L0d ms15)))) σ)) ?_
     have hax:a61 < nG a22:=List.mem_range.1 (by rw [hl61]; simp)
     have hvo:=L3e ok (n:=a22.reads.low + (a61:Int)) (by omega)
     have hdb:=L1q hvo
     have hub:=L4r hvo
     refine Ag rfl rfl ?_
     refine Arv (Ct L1p fun k62=>?_)
     refine Cx rfl (Dv (v:=(L4p (L0b a22.scale.points (a22.reads.low + (a61:Int))))) (a:=L0b a22.scale.points (a22.reads.low + (a61:Int))) (c:=L1z) L1h rfl rfl (L1t hvo) rfl ?_)
     refine Bb (a:=L0b a22.scale.points (a22.reads.low + (a61:Int))) (L1t hvo) fun ρ63 l63 r63=>?_
     refine Bj (σ':=pfx61 ++ ((k55,Res.obj (Obj.cells #[(iV (lo)),(iV (hi))] 41 (0,0))) :: (og15_7 ++ ((L0d ms15) ++ σ)))) (Asg (by first | exact Fe (([(k55,Res.obj (Obj.cells #[(iV (lo)),(iV (hi))] 41 (0,0)))] ++ (og15_7 ++ (L0d ms15)))) pfx61 σ | simpa only [List.append_assoc,List.cons_append,List.nil_append,List.set_cons_zero] using Fe (([(k55,Res.obj (Obj.cells #[(iV (lo)),(iV (hi))] 41 (0,0)))] ++ (og15_7 ++ (L0d ms15)))) pfx61 σ)) ?_
     apply Ac
     refine ⟨rfl,rfl,l63,_,rfl,?_⟩
     intro pfy61
     refine Aj (σ':=((k55,Res.obj (Obj.cells #[(iV (lo)),(iV (hi))] 41 (0,0))) :: (og15_7 ++ ((L0d ms15) ++ (pfy61 ++ σ))))) (Asg (by first | exact Fe pfy61 (([(k55,Res.obj (Obj.cells #[(iV (lo)),(iV (hi))] 41 (0,0)))] ++ (og15_7 ++ (L0d ms15)))) σ | simpa only [List.append_assoc,List.cons_append,List.nil_append,List.set_cons_zero] using Fe pfy61 (([(k55,Res.obj (Obj.cells #[(iV (lo)),(iV (hi))] 41 (0,0)))] ++ (og15_7 ++ (L0d ms15)))) σ)) ?_
     refine Ao ?_
     refine Aab ?_
     refine L2z (((k55,oC #[(iV (lo)),(iV (hi))] 41) :: (og15_7 ++ ((L0d ms15) ++ [])))) [0,1,2,3,4,5,6,7,8,9,10] (by kernel_rfl) rfl rfl ?_
     refine L1a (i:=0) [o1,o0,o0,o0,o0,o0,o0,o0,o0,o0,o0,o0] rfl (by kernel_rfl) rfl ⟨Ash,(by repeat first | exact L0o | refine L0l ?_ | refine L0m ?_ | refine L0k ?_ | refine L0n ?_)⟩ rfl (Yld.o (Cb Tryz.underlying41 rfl rfl ⟨_,Ab Tryz.typeInfo3,rfl⟩ (by decide) rfl rfl)) ?_
     refine L1a (i:=1) [o1,o1,o0,o0,o0,o0,o0,o0,o0,o0,o0,o0] rfl (by kernel_rfl) rfl ⟨Ash,(by repeat first | exact L0o | refine L0l ?_ | refine L0m ?_ | refine L0k ?_ | refine L0n ?_)⟩ rfl (L1k (v:=(iV (lo))) ⟨_,Tryz.underlying3,rfl⟩ rfl (List.mem_cons_self ..) rfl) ?_
     refine L2c (i:=2) [o1,o1,o1,o0,o0,o0,o0,o0,o0,o0,o0,o0] rfl (by kernel_rfl) rfl ⟨Ash,(by repeat first | exact L0o | refine L0l ?_ | refine L0m ?_ | refine L0k ?_ | refine L0n ?_)⟩ rfl (L1o (Ax L1h rfl r63)) fun v64 r64=>?_
     refine L1a (i:=5) [o1,o1,o1,o0,o0,o1,o0,o0,o0,o0,o0,o0] rfl (by kernel_rfl) rfl ⟨Ash,(by repeat first | exact L0o | refine L0l ?_ | refine L0m ?_ | refine L0k ?_ | refine L0n ?_)⟩ rfl (Yld.o (Cb Tryz.underlying41 rfl rfl ⟨_,Ab Tryz.typeInfo3,rfl⟩ (by decide) rfl rfl)) ?_
     refine L1a (i:=6) [o1,o1,o1,o0,o0,o1,o1,o0,o0,o0,o0,o0] rfl (by kernel_rfl) rfl ⟨Ash,(by repeat first | exact L0o | refine L0l ?_ | refine L0m ?_ | refine L0k ?_ | refine L0n ?_)⟩ rfl (L1k (v:=(iV (hi))) ⟨_,Tryz.underlying3,rfl⟩ rfl (List.mem_cons_self ..) rfl) ?_
     refine L2c (i:=7) [o1,o1,o1,o0,o0,o1,o1,o1,o0,o0,o0,o0] rfl (by kernel_rfl) rfl ⟨Ash,(by repeat first | exact L0o | refine L0l ?_ | refine L0m ?_ | refine L0k ?_ | refine L0n ?_)⟩ rfl (L1o (Ax L1h rfl r63)) fun v65 r65=>?_
     refine L2m (i:=3) [o1,o1,o1,o1,o0,o1,o1,o1,o0,o0,o0,o0] rfl (by kernel_rfl) rfl rfl (Bm (L2o r64 hvo) Tryz.func47 rfl rfl ⟨rfl,trivial⟩ ⟨⟨Ash,(by repeat first | exact L0o | refine L0l ?_ | refine L0m ?_ | refine L0k ?_ | refine L0n ?_)⟩,?_⟩)
     refine L1a (i:=4) [o1,o1,o1,o1,o1,o1,o1,o1,o0,o0,o0,o0] rfl (by kernel_rfl) rfl ⟨Ash,(by repeat first | exact L0o | refine L0l ?_ | refine L0m ?_ | refine L0k ?_ | refine L0n ?_)⟩ rfl (Yld.o (Ajx (p:=lo) (q:=L0c (L0b a22.scale.points (a22.reads.low + (a61:Int)))) rfl rfl)) ?_
     refine L2m (i:=8) Aoo rfl (by kernel_rfl) rfl rfl (Bm (L6f r65 hvo) Tryz.func48 rfl rfl ⟨rfl,trivial⟩ ⟨⟨Ash,(by repeat first | exact L0o | refine L0l ?_ | refine L0m ?_ | refine L0k ?_ | refine L0n ?_)⟩,?_⟩)
     refine L1l (i:=9) Amg rfl (by kernel_rfl) rfl ⟨Ash,(by repeat first | exact L0o | refine L0l ?_ | refine L0m ?_ | refine L0k ?_ | refine L0n ?_)⟩ rfl (Yld.o (Aqf (p:=hi) (q:=upI (L0b a22.scale.points (a22.reads.low + (a61:Int)))) rfl rfl)) ⟨Ash,(by repeat first | exact L0o | refine L0l ?_ | refine L0m ?_ | refine L0k ?_ | refine L0n ?_)⟩ ?_
     have r66:Val ρ63 (.agg #[(iV ((min lo (L0c (L0b a22.scale.points (a22.reads.low + (a61:Int))))))),(iV ((max hi (upI (L0b a22.scale.points (a22.reads.low + (a61:Int)))))))]) (⟨(min lo (L0c (L0b a22.scale.points (a22.reads.low + (a61:Int))))),(max hi (upI (L0b a22.scale.points (a22.reads.low + (a61:Int)))))⟩:Span):=Span.shut (x:=(⟨(min lo (L0c (L0b a22.scale.points (a22.reads.low + (a61:Int))))),(max hi (upI (L0b a22.scale.points (a22.reads.low + (a61:Int)))))⟩:Span)) (show I64 ((min lo (L0c (L0b a22.scale.points (a22.reads.low + (a61:Int)))))) from by constructor <;> omega) (show I64 ((max hi (upI (L0b a22.scale.points (a22.reads.low + (a61:Int)))))) from by constructor <;> omega)
     refine L1l (i:=10) zZ0 rfl (by kernel_rfl) rfl ⟨Ash,(by repeat first | exact L0o | refine L0l ?_ | refine L0m ?_ | refine L0k ?_ | refine L0n ?_)⟩ rfl (Yld.o (Dn (ns:=[1,1]) (vs:=[(0,(iV ((min lo (L0c (L0b a22.scale.points (a22.reads.low + (a61:Int)))))))),(1,(iV ((max hi (upI (L0b a22.scale.points (a22.reads.low + (a61:Int))))))))]) (zc:=Arm) (cs:=[(iV ((min lo (L0c (L0b a22.scale.points (a22.reads.low + (a61:Int))))))),(iV ((max hi (upI (L0b a22.scale.points (a22.reads.low + (a61:Int)))))))]) Tryz.underlying41 Aak rfl ⟨⟨_,Ab Tryz.typeInfo3,rfl⟩,⟨_,Ab Tryz.typeInfo3,rfl⟩,trivial⟩ (EvB.map ⟨⟨rfl,rfl⟩,⟨rfl,rfl⟩,trivial⟩) ((Be (cs:=[(iV ((min lo (L0c (L0b a22.scale.points (a22.reads.low + (a61:Int)))))))]) rfl rfl (Nat.le_of_ble_eq_true rfl)).trans ((Be (cs:=[(iV ((max hi (upI (L0b a22.scale.points (a22.reads.low + (a61:Int)))))))]) rfl rfl (Nat.le_of_ble_eq_true rfl)).trans rfl)))) ⟨Ash,(by repeat first | exact L0o | refine L0l ?_ | refine L0m ?_ | refine L0k ?_ | refine L0n ?_)⟩ ?_
     refine L3a (i:=11) zZ1 rfl (by kernel_rfl) (by kernel_rfl) rfl rfl (Li (i:=0) (vs:=[(iV ((min lo (L0c (L0b a22.scale.points (a22.reads.low + (a61:Int))))))),(iV ((max hi (upI (L0b a22.scale.points (a22.reads.low + (a61:Int)))))))]) (c':=[(iV ((min lo (L0c (L0b a22.scale.points (a22.reads.low + (a61:Int))))))),(iV ((max hi (upI (L0b a22.scale.points (a22.reads.low + (a61:Int)))))))]) ⟨_,Ab Tryz.typeInfo41,rfl⟩ rfl rfl rfl rfl (Zh ⟨rfl,rfl,trivial⟩) rfl (Nat.le_of_ble_eq_true rfl) rfl ?_)
     refine L5v rfl ?_
     show Vl _ .normal _ _ _ _
     refine Yn (σ':=pfy61 ++ ((k55,Res.obj (Obj.cells #[(iV ((min lo (L0c (L0b a22.scale.points (a22.reads.low + (a61:Int))))))),(iV ((max hi (upI (L0b a22.scale.points (a22.reads.low + (a61:Int)))))))] 41 (0,0))) :: (og15_7 ++ ((L0d ms15) ++ σ)))) (Asg (by simpa only [List.append_assoc,List.cons_append,List.nil_append,List.set_cons_zero,List.set_cons_succ] using Fe (([(k55,Res.obj (Obj.cells #[(iV ((min lo (L0c (L0b a22.scale.points (a22.reads.low + (a61:Int))))))),(iV ((max hi (upI (L0b a22.scale.points (a22.reads.low + (a61:Int)))))))] 41 (0,0)))] ++ (og15_7 ++ (L0d ms15)))) pfy61 σ)) ?_
     refine Adc ?_
     refine ⟨rfl,Ash,_,rfl,l1 ++ [a61],((min lo (L0c (L0b a22.scale.points (a22.reads.low + (a61:Int)))))),((max hi (upI (L0b a22.scale.points (a22.reads.low + (a61:Int)))))),(by simp),rfl,(by rw [L2v,← p61_0]),(by omega),trivial⟩
    ·rintro k67 ρ67 _ l67 ⟨l1,lo,hi,hpre67,rfl,p61_0,p61_1,_⟩
     obtain rfl:=L2t L1r hpre67
     replace OG15_7:=Grow.mono l67 OG15_7
     apply k57
     refine Aj (σ':=((k55,Res.obj (Obj.cells #[(iV (lo)),(iV (hi))] 41 (0,0))) :: (og15_7 ++ ((L0d (k67 :: ms15)) ++ σ)))) (Asg (by first | exact Fe [(k67,Res.obj (Obj.deferred (some [])))] (([(k55,Res.obj (Obj.cells #[(iV (lo)),(iV (hi))] 41 (0,0)))] ++ og15_7)) ((L0d ms15) ++ σ) | simpa only [List.append_assoc,List.cons_append,List.nil_append,List.set_cons_zero] using Fe [(k67,Res.obj (Obj.deferred (some [])))] (([(k55,Res.obj (Obj.cells #[(iV (lo)),(iV (hi))] 41 (0,0)))] ++ og15_7)) ((L0d ms15) ++ σ))) ?_
     refine Ag rfl rfl ?_
     refine l_v (Ah (v:=ov15_7) h15_7) ?_
     refine Arv (Xo (i:=0) (cs:=[(iV (lo)),(iV (hi))]) (rs:=[]) ⟨_,Tryz.underlying41,rfl⟩ ⟨_,Ab Tryz.typeInfo41,rfl⟩ rfl rfl rfl rfl ?_)
     have r68:Val ρ67 (.agg #[(iV (lo)),(iV (hi))]) (⟨lo,hi⟩:Span):=Span.shut (x:=(⟨lo,hi⟩:Span)) (show I64 (lo) from by constructor <;> omega) (show I64 (hi) from by constructor <;> omega)
     refine Arv (Bi (α:=Span) (xs:=[(⟨lo,hi⟩:Span)]) (vs:=[(.agg #[(iV (lo)),(iV (hi))])]) Tryz.underlying26 Mx Aak rfl (by decide) (Dk (os:=[.tmp 55]) ⟨rfl,trivial⟩) ⟨r68,trivial⟩ rfl (by decide) fun k69 cs69 R69=>?_)
     have G69:Grow ρ67 41 (.slice (some ⟨k69,0,none⟩) 1 1) ([(⟨lo,hi⟩:Span)]:List Span) [(k69,oC cs69.toArray 41)]:=Bs R69 rfl (by decide)
     refine Ca G69 fun ρ71 l71 r71=>?_
     replace OG15_7:=Grow.mono l71 OG15_7
     refine Bj (Asg Asc) ?_
     refine Arv (Gc (σ:=((k55,oC #[(iV (lo)),(iV (hi))] 41) :: ((L0d (k67 :: ms15)) ++ σ))) (gr:=og15_7) (xs:=L0u r l i) (ys:=([(⟨lo,hi⟩:Span)]:List Span)) Tryz.underlying26 Tryz.underlying26 (Ab Tryz.typeInfo41) rfl (Nat.le_of_ble_eq_true rfl) rfl rfl rfl rfl OG15_7 r71 (by simp only [List.length_append,List.length_cons,List.length_nil,L0u,List.length_map,List.length_range]; omega) fun v70 gr70 G70=>?_)
     refine l_v (Cp (v:=v70) rfl) ?_
     refine l_k k19 ?_
     refine Ag rfl rfl ?_
     refine l_v (Br h15_24 rfl (z:=(((i + 1):Nat):Int)) (Bo (by first | rfl | omega | (push_cast; rfl)) (by omega) (by omega))) ?_
     refine l_v (Ah (v:=(iV ((((i + 1):Nat):Int)))) rfl) ?_
     refine Bj (Asg Asd) ?_
     refine Bj Ghost.drop ?_
     apply Ac
     refine ⟨_,?_,((i + 1)),((k67 :: ms15)),v70,gr70,rfl,rfl,(Asi (Asi (Asi (Asi (Asi (Asi l15 l25) l32) l34) l60) l67) l71),rfl,h15_22,h15_23,rfl,rfl,(by omega),(Fy (by rw [L1m,p61_0]; congr 2; subst hge; rfl) G70),trivial⟩
     omega
  ·refine Ct Aak fun k72=>⟨Ash,?_⟩
   refine Dj (i:=1) [o1,o1,o1,o0,o0,o1,o0] rfl (by kernel_rfl) rfl rfl (Bm (L2o r36 hr00) Tryz.func47 rfl rfl ⟨rfl,trivial⟩ ⟨Ash,?_⟩)
   refine Dj (i:=3) [o1,o1,o1,o1,o0,o1,o0] rfl (by kernel_rfl) rfl rfl (Bm (L6f r37 hr00) Tryz.func48 rfl rfl ⟨rfl,trivial⟩ ⟨Ash,?_⟩)
   have r73:Val ρ34 (.agg #[(iV (L0c (L0b a22.scale.points a22.reads.low))),(iV (upI (L0b a22.scale.points a22.reads.low)))]) (⟨L0c (L0b a22.scale.points a22.reads.low),upI (L0b a22.scale.points a22.reads.low)⟩:Span):=Span.shut (x:=(⟨L0c (L0b a22.scale.points a22.reads.low),upI (L0b a22.scale.points a22.reads.low)⟩:Span)) (show I64 (L0c (L0b a22.scale.points a22.reads.low)) from by constructor <;> omega) (show I64 (upI (L0b a22.scale.points a22.reads.low)) from by constructor <;> omega)
   refine Bg (i:=4) Ape rfl (by kernel_rfl) rfl Ash rfl (Dn (ns:=[1,1]) (vs:=[(0,(iV (L0c (L0b a22.scale.points a22.reads.low)))),(1,(iV (upI (L0b a22.scale.points a22.reads.low))))]) (zc:=Arm) (cs:=[(iV (L0c (L0b a22.scale.points a22.reads.low))),(iV (upI (L0b a22.scale.points a22.reads.low)))]) Tryz.underlying41 Aak rfl ⟨⟨_,Ab Tryz.typeInfo3,rfl⟩,⟨_,Ab Tryz.typeInfo3,rfl⟩,trivial⟩ (EvB.map ⟨⟨rfl,rfl⟩,⟨rfl,rfl⟩,trivial⟩) ((Be (cs:=[(iV (L0c (L0b a22.scale.points a22.reads.low)))]) rfl rfl (Nat.le_of_ble_eq_true rfl)).trans ((Be (cs:=[(iV (upI (L0b a22.scale.points a22.reads.low)))]) rfl rfl (Nat.le_of_ble_eq_true rfl)).trans rfl))) ?_
   refine Fg (i:=6) Apf rfl (by kernel_rfl) rfl rfl (Li (i:=0) (vs:=[(iV (L0c (L0b a22.scale.points a22.reads.low))),(iV (upI (L0b a22.scale.points a22.reads.low)))]) (c':=[(iV (L0c (L0b a22.scale.points a22.reads.low))),(iV (upI (L0b a22.scale.points a22.reads.low)))]) ⟨_,Ab Tryz.typeInfo41,rfl⟩ rfl rfl rfl rfl (Zh ⟨rfl,rfl,trivial⟩) rfl (Nat.le_of_ble_eq_true rfl) rfl ⟨Ash,?_⟩)
   refine Ec rfl ?_
   apply k35
   refine Asb rfl rfl fun K74 K75 k74 k75=>?_
   refine Arw (Ax L2i rfl r25) fun v76 r76=>?_
   refine Arv (Cm (vs:=[v76]) (L2e r76 hgo) Tryz.func49 rfl rfl ⟨rfl,trivial⟩ fun v77 ρ77 σ77 hc77=>?_)
   obtain ⟨l77,s77,r77⟩:=hc77
   replace s77:=s77.symm; subst s77
   replace OG15_7:=Grow.mono l77 OG15_7
   refine l_k k75 ?_
   refine Ao ?_
   refine L1n (ys:=(List.range (nG a22)).map (L2b a22.scale.points a22.reads.low)) (fun pre ρ' τ=>∃ (l1:List Nat) (lo:Int) (hi:Int),pre = l1.map (L2b a22.scale.points a22.reads.low)∧((k72,oC #[(iV (lo)),(iV (hi))] 41) :: (og15_7 ++ ((L0d ms15) ++ σ))) = τ∧((⟨lo,hi⟩:Span) = L3o a22.scale.points a22.reads.low l1)∧(-20000000 ≤ lo∧lo ≤ 20000000∧-20000000 ≤ hi∧hi ≤ 20000000)∧True) rfl rfl (Nat.le_of_ble_eq_true rfl) (Nat.le_of_ble_eq_true rfl) rfl r77 ?_ ?_ ?_ ?_
   ·exact fun _ _ _ _ _ h=>h
   ·exact ⟨[],L0c (L0b a22.scale.points a22.reads.low),upI (L0b a22.scale.points a22.reads.low),rfl,rfl,rfl,(by omega),trivial⟩
   ·rintro l78_ _ x78 post78 ρ78 _ hys78 l78 ⟨l1,lo,hi,rfl,rfl,p78_0,p78_1,_⟩ pfx78
    obtain ⟨a78,l2_78,hl78,rfl⟩:=L2f L1r hys78
    refine Aj (σ':=((k72,Res.obj (Obj.cells #[(iV (lo)),(iV (hi))] 41 (0,0))) :: (og15_7 ++ ((L0d ms15) ++ (pfx78 ++ σ))))) (Asg (by first | exact Fe pfx78 (([(k72,Res.obj (Obj.cells #[(iV (lo)),(iV (hi))] 41 (0,0)))] ++ (og15_7 ++ (L0d ms15)))) σ | simpa only [List.append_assoc,List.cons_append,List.nil_append,List.set_cons_zero] using Fe pfx78 (([(k72,Res.obj (Obj.cells #[(iV (lo)),(iV (hi))] 41 (0,0)))] ++ (og15_7 ++ (L0d ms15)))) σ)) ?_
    have hax:a78 < nG a22:=List.mem_range.1 (by rw [hl78]; simp)
    have hvo:=L3e ok (n:=a22.reads.low + (a78:Int)) (by omega)
    have hdb:=L1q hvo
    have hub:=L4r hvo
    refine Ag rfl rfl ?_
    refine Arv (Ct L1p fun k79=>?_)
    refine Cx rfl (Dv (v:=(L4p (L0b a22.scale.points (a22.reads.low + (a78:Int))))) (a:=L0b a22.scale.points (a22.reads.low + (a78:Int))) (c:=L1z) L1h rfl rfl (L1t hvo) rfl ?_)
    refine Bb (a:=L0b a22.scale.points (a22.reads.low + (a78:Int))) (L1t hvo) fun ρ80 l80 r80=>?_
    refine Bj (σ':=pfx78 ++ ((k72,Res.obj (Obj.cells #[(iV (lo)),(iV (hi))] 41 (0,0))) :: (og15_7 ++ ((L0d ms15) ++ σ)))) (Asg (by first | exact Fe (([(k72,Res.obj (Obj.cells #[(iV (lo)),(iV (hi))] 41 (0,0)))] ++ (og15_7 ++ (L0d ms15)))) pfx78 σ | simpa only [List.append_assoc,List.cons_append,List.nil_append,List.set_cons_zero] using Fe (([(k72,Res.obj (Obj.cells #[(iV (lo)),(iV (hi))] 41 (0,0)))] ++ (og15_7 ++ (L0d ms15)))) pfx78 σ)) ?_
    apply Ac
    refine ⟨rfl,rfl,l80,_,rfl,?_⟩
    intro pfy78
    refine Aj (σ':=((k72,Res.obj (Obj.cells #[(iV (lo)),(iV (hi))] 41 (0,0))) :: (og15_7 ++ ((L0d ms15) ++ (pfy78 ++ σ))))) (Asg (by first | exact Fe pfy78 (([(k72,Res.obj (Obj.cells #[(iV (lo)),(iV (hi))] 41 (0,0)))] ++ (og15_7 ++ (L0d ms15)))) σ | simpa only [List.append_assoc,List.cons_append,List.nil_append,List.set_cons_zero] using Fe pfy78 (([(k72,Res.obj (Obj.cells #[(iV (lo)),(iV (hi))] 41 (0,0)))] ++ (og15_7 ++ (L0d ms15)))) σ)) ?_
    refine Ao ?_
    refine Aab ?_
    refine L2z (((k72,oC #[(iV (lo)),(iV (hi))] 41) :: (og15_7 ++ ((L0d ms15) ++ [])))) [0,1,2,3,4,5,6,7,8,9,10] (by kernel_rfl) rfl rfl ?_
    refine L1a (i:=0) [o1,o0,o0,o0,o0,o0,o0,o0,o0,o0,o0,o0] rfl (by kernel_rfl) rfl ⟨Ash,(by repeat first | exact L0o | refine L0l ?_ | refine L0m ?_ | refine L0k ?_ | refine L0n ?_)⟩ rfl (Yld.o (Cb Tryz.underlying41 rfl rfl ⟨_,Ab Tryz.typeInfo3,rfl⟩ (by decide) rfl rfl)) ?_
    refine L1a (i:=1) [o1,o1,o0,o0,o0,o0,o0,o0,o0,o0,o0,o0] rfl (by kernel_rfl) rfl ⟨Ash,(by repeat first | exact L0o | refine L0l ?_ | refine L0m ?_ | refine L0k ?_ | refine L0n ?_)⟩ rfl (L1k (v:=(iV (lo))) ⟨_,Tryz.underlying3,rfl⟩ rfl (List.mem_cons_self ..) rfl) ?_
    refine L2c (i:=2) [o1,o1,o1,o0,o0,o0,o0,o0,o0,o0,o0,o0] rfl (by kernel_rfl) rfl ⟨Ash,(by repeat first | exact L0o | refine L0l ?_ | refine L0m ?_ | refine L0k ?_ | refine L0n ?_)⟩ rfl (L1o (Ax L1h rfl r80)) fun v81 r81=>?_
    refine L1a (i:=5) [o1,o1,o1,o0,o0,o1,o0,o0,o0,o0,o0,o0] rfl (by kernel_rfl) rfl ⟨Ash,(by repeat first | exact L0o | refine L0l ?_ | refine L0m ?_ | refine L0k ?_ | refine L0n ?_)⟩ rfl (Yld.o (Cb Tryz.underlying41 rfl rfl ⟨_,Ab Tryz.typeInfo3,rfl⟩ (by decide) rfl rfl)) ?_
    refine L1a (i:=6) [o1,o1,o1,o0,o0,o1,o1,o0,o0,o0,o0,o0] rfl (by kernel_rfl) rfl ⟨Ash,(by repeat first | exact L0o | refine L0l ?_ | refine L0m ?_ | refine L0k ?_ | refine L0n ?_)⟩ rfl (L1k (v:=(iV (hi))) ⟨_,Tryz.underlying3,rfl⟩ rfl (List.mem_cons_self ..) rfl) ?_
    refine L2c (i:=7) [o1,o1,o1,o0,o0,o1,o1,o1,o0,o0,o0,o0] rfl (by kernel_rfl) rfl ⟨Ash,(by repeat first | exact L0o | refine L0l ?_ | refine L0m ?_ | refine L0k ?_ | refine L0n ?_)⟩ rfl (L1o (Ax L1h rfl r80)) fun v82 r82=>?_
    refine L2m (i:=3) [o1,o1,o1,o1,o0,o1,o1,o1,o0,o0,o0,o0] rfl (by kernel_rfl) rfl rfl (Bm (L2o r81 hvo) Tryz.func47 rfl rfl ⟨rfl,trivial⟩ ⟨⟨Ash,(by repeat first | exact L0o | refine L0l ?_ | refine L0m ?_ | refine L0k ?_ | refine L0n ?_)⟩,?_⟩)
    refine L1a (i:=4) [o1,o1,o1,o1,o1,o1,o1,o1,o0,o0,o0,o0] rfl (by kernel_rfl) rfl ⟨Ash,(by repeat first | exact L0o | refine L0l ?_ | refine L0m ?_ | refine L0k ?_ | refine L0n ?_)⟩ rfl (Yld.o (Ajx (p:=lo) (q:=L0c (L0b a22.scale.points (a22.reads.low + (a78:Int)))) rfl rfl)) ?_
    refine L2m (i:=8) Aoo rfl (by kernel_rfl) rfl rfl (Bm (L6f r82 hvo) Tryz.func48 rfl rfl ⟨rfl,trivial⟩ ⟨⟨Ash,(by repeat first | exact L0o | refine L0l ?_ | refine L0m ?_ | refine L0k ?_ | refine L0n ?_)⟩,?_⟩)
    refine L1l (i:=9) Amg rfl (by kernel_rfl) rfl ⟨Ash,(by repeat first | exact L0o | refine L0l ?_ | refine L0m ?_ | refine L0k ?_ | refine L0n ?_)⟩ rfl (Yld.o (Aqf (p:=hi) (q:=upI (L0b a22.scale.points (a22.reads.low + (a78:Int)))) rfl rfl)) ⟨Ash,(by repeat first | exact L0o | refine L0l ?_ | refine L0m ?_ | refine L0k ?_ | refine L0n ?_)⟩ ?_
    have r83:Val ρ80 (.agg #[(iV ((min lo (L0c (L0b a22.scale.points (a22.reads.low + (a78:Int))))))),(iV ((max hi (upI (L0b a22.scale.points (a22.reads.low + (a78:Int)))))))]) (⟨(min lo (L0c (L0b a22.scale.points (a22.reads.low + (a78:Int))))),(max hi (upI (L0b a22.scale.points (a22.reads.low + (a78:Int)))))⟩:Span):=Span.shut (x:=(⟨(min lo (L0c (L0b a22.scale.points (a22.reads.low + (a78:Int))))),(max hi (upI (L0b a22.scale.points (a22.reads.low + (a78:Int)))))⟩:Span)) (show I64 ((min lo (L0c (L0b a22.scale.points (a22.reads.low + (a78:Int)))))) from by constructor <;> omega) (show I64 ((max hi (upI (L0b a22.scale.points (a22.reads.low + (a78:Int)))))) from by constructor <;> omega)
    refine L1l (i:=10) zZ0 rfl (by kernel_rfl) rfl ⟨Ash,(by repeat first | exact L0o | refine L0l ?_ | refine L0m ?_ | refine L0k ?_ | refine L0n ?_)⟩ rfl (Yld.o (Dn (ns:=[1,1]) (vs:=[(0,(iV ((min lo (L0c (L0b a22.scale.points (a22.reads.low + (a78:Int)))))))),(1,(iV ((max hi (upI (L0b a22.scale.points (a22.reads.low + (a78:Int))))))))]) (zc:=Arm) (cs:=[(iV ((min lo (L0c (L0b a22.scale.points (a22.reads.low + (a78:Int))))))),(iV ((max hi (upI (L0b a22.scale.points (a22.reads.low + (a78:Int)))))))]) Tryz.underlying41 Aak rfl ⟨⟨_,Ab Tryz.typeInfo3,rfl⟩,⟨_,Ab Tryz.typeInfo3,rfl⟩,trivial⟩ (EvB.map ⟨⟨rfl,rfl⟩,⟨rfl,rfl⟩,trivial⟩) ((Be (cs:=[(iV ((min lo (L0c (L0b a22.scale.points (a22.reads.low + (a78:Int)))))))]) rfl rfl (Nat.le_of_ble_eq_true rfl)).trans ((Be (cs:=[(iV ((max hi (upI (L0b a22.scale.points (a22.reads.low + (a78:Int)))))))]) rfl rfl (Nat.le_of_ble_eq_true rfl)).trans rfl)))) ⟨Ash,(by repeat first | exact L0o | refine L0l ?_ | refine L0m ?_ | refine L0k ?_ | refine L0n ?_)⟩ ?_
    refine L3a (i:=11) zZ1 rfl (by kernel_rfl) (by kernel_rfl) rfl rfl (Li (i:=0) (vs:=[(iV ((min lo (L0c (L0b a22.scale.points (a22.reads.low + (a78:Int))))))),(iV ((max hi (upI (L0b a22.scale.points (a22.reads.low + (a78:Int)))))))]) (c':=[(iV ((min lo (L0c (L0b a22.scale.points (a22.reads.low + (a78:Int))))))),(iV ((max hi (upI (L0b a22.scale.points (a22.reads.low + (a78:Int)))))))]) ⟨_,Ab Tryz.typeInfo41,rfl⟩ rfl rfl rfl rfl (Zh ⟨rfl,rfl,trivial⟩) rfl (Nat.le_of_ble_eq_true rfl) rfl ?_)
    refine L5v rfl ?_
    show Vl _ .normal _ _ _ _
    refine Yn (σ':=pfy78 ++ ((k72,Res.obj (Obj.cells #[(iV ((min lo (L0c (L0b a22.scale.points (a22.reads.low + (a78:Int))))))),(iV ((max hi (upI (L0b a22.scale.points (a22.reads.low + (a78:Int)))))))] 41 (0,0))) :: (og15_7 ++ ((L0d ms15) ++ σ)))) (Asg (by simpa only [List.append_assoc,List.cons_append,List.nil_append,List.set_cons_zero,List.set_cons_succ] using Fe (([(k72,Res.obj (Obj.cells #[(iV ((min lo (L0c (L0b a22.scale.points (a22.reads.low + (a78:Int))))))),(iV ((max hi (upI (L0b a22.scale.points (a22.reads.low + (a78:Int)))))))] 41 (0,0)))] ++ (og15_7 ++ (L0d ms15)))) pfy78 σ)) ?_
    refine Adc ?_
    refine ⟨rfl,Ash,_,rfl,l1 ++ [a78],((min lo (L0c (L0b a22.scale.points (a22.reads.low + (a78:Int)))))),((max hi (upI (L0b a22.scale.points (a22.reads.low + (a78:Int)))))),(by simp),rfl,(by rw [L2v,← p78_0]),(by omega),trivial⟩
   ·rintro k84 ρ84 _ l84 ⟨l1,lo,hi,hpre84,rfl,p78_0,p78_1,_⟩
    obtain rfl:=L2t L1r hpre84
    replace OG15_7:=Grow.mono l84 OG15_7
    apply k74
    refine Aj (σ':=((k72,Res.obj (Obj.cells #[(iV (lo)),(iV (hi))] 41 (0,0))) :: (og15_7 ++ ((L0d (k84 :: ms15)) ++ σ)))) (Asg (by first | exact Fe [(k84,Res.obj (Obj.deferred (some [])))] (([(k72,Res.obj (Obj.cells #[(iV (lo)),(iV (hi))] 41 (0,0)))] ++ og15_7)) ((L0d ms15) ++ σ) | simpa only [List.append_assoc,List.cons_append,List.nil_append,List.set_cons_zero] using Fe [(k84,Res.obj (Obj.deferred (some [])))] (([(k72,Res.obj (Obj.cells #[(iV (lo)),(iV (hi))] 41 (0,0)))] ++ og15_7)) ((L0d ms15) ++ σ))) ?_
    refine Ag rfl rfl ?_
    refine l_v (Ah (v:=ov15_7) h15_7) ?_
    refine Arv (Xo (i:=0) (cs:=[(iV (lo)),(iV (hi))]) (rs:=[]) ⟨_,Tryz.underlying41,rfl⟩ ⟨_,Ab Tryz.typeInfo41,rfl⟩ rfl rfl rfl rfl ?_)
    have r85:Val ρ84 (.agg #[(iV (lo)),(iV (hi))]) (⟨lo,hi⟩:Span):=Span.shut (x:=(⟨lo,hi⟩:Span)) (show I64 (lo) from by constructor <;> omega) (show I64 (hi) from by constructor <;> omega)
    refine Arv (Bi (α:=Span) (xs:=[(⟨lo,hi⟩:Span)]) (vs:=[(.agg #[(iV (lo)),(iV (hi))])]) Tryz.underlying26 Mx Aak rfl (by decide) (Dk (os:=[.tmp 55]) ⟨rfl,trivial⟩) ⟨r85,trivial⟩ rfl (by decide) fun k86 cs86 R86=>?_)
    have G86:Grow ρ84 41 (.slice (some ⟨k86,0,none⟩) 1 1) ([(⟨lo,hi⟩:Span)]:List Span) [(k86,oC cs86.toArray 41)]:=Bs R86 rfl (by decide)
    refine Ca G86 fun ρ88 l88 r88=>?_
    replace OG15_7:=Grow.mono l88 OG15_7
    refine Bj (Asg Asc) ?_
    refine Arv (Gc (σ:=((k72,oC #[(iV (lo)),(iV (hi))] 41) :: ((L0d (k84 :: ms15)) ++ σ))) (gr:=og15_7) (xs:=L0u r l i) (ys:=([(⟨lo,hi⟩:Span)]:List Span)) Tryz.underlying26 Tryz.underlying26 (Ab Tryz.typeInfo41) rfl (Nat.le_of_ble_eq_true rfl) rfl rfl rfl rfl OG15_7 r88 (by simp only [List.length_append,List.length_cons,List.length_nil,L0u,List.length_map,List.length_range]; omega) fun v87 gr87 G87=>?_)
    refine l_v (Cp (v:=v87) rfl) ?_
    refine l_k k19 ?_
    refine Ag rfl rfl ?_
    refine l_v (Br h15_24 rfl (z:=(((i + 1):Nat):Int)) (Bo (by first | rfl | omega | (push_cast; rfl)) (by omega) (by omega))) ?_
    refine l_v (Ah (v:=(iV ((((i + 1):Nat):Int)))) rfl) ?_
    refine Bj (Asg Asd) ?_
    refine Bj Ghost.drop ?_
    apply Ac
    refine ⟨_,?_,((i + 1)),((k84 :: ms15)),v87,gr87,rfl,rfl,(Asi (Asi (Asi (Asi (Asi (Asi l15 l25) l32) l34) l77) l84) l88),rfl,h15_22,h15_23,rfl,rfl,(by omega),(Fy (by rw [L1m,p78_0]; congr 2; subst hge; rfl) G87),trivial⟩
    omega
 have q18:=of_decide_eq_false b18
 refine Bx ?_
 apply k10
 refine w_q rfl rfl fun K89 k89=>?_
 refine l_v (Ah (v:=ov15_7) h15_7) ?_
 refine l_v (Cp (v:=ov15_7) rfl) ?_
 refine l_v (Cp (v:=(iV (0))) rfl) ?_
 refine l_k k89 ?_
 refine Hc OG15_7 fun ρ90 l90 r90=>?_
 refine Aq ?_
 refine hret _ _ _ (ms15) ?_
 refine ⟨(Asi (Asi (Asi l2 l13) l15) l90),rfl,ov15_7,Eq.trans (b:=(.tuple #[ov15_7,(iV (0))])) (Mp (r:=4) (r':=5) (rs:=[]) (v:=ov15_7) (v':=(iV (0))) (vs:=[]) ⟨rfl,rfl,trivial⟩) ?_,Val.cast ?_ r90⟩
 ·rw [hr0]
 ·rw [L0a,if_pos hr0,show r.measures.length = i by omega]
end Go.Proofs.YtphgjjmlnkgghaaGreatDoor

namespace Go.Proofs.YtphgjjmlnkgghaaGreatDoor
set_option maxHeartbeats 1000000
open Go
def L5f (x:Span) (picks:List UH) (i:Nat):Span:=⟨x.low + (((L0e picks (2 * i):Nat):Int).tmod (x.high - x.low + 1)),x.low + (((L0e picks (2 * i):Nat):Int).tmod (x.high - x.low + 1)) + (((L0e picks (2 * i + 1):Nat):Int).tmod (x.high - (x.low + (((L0e picks (2 * i):Nat):Int).tmod (x.high - x.low + 1))) + 1))⟩
def L1c (one:List Span) (picks:List UH) (i:Nat):List Span:=(List.range i).map fun j=>L5f (L3n one j) picks j
theorem L3d {n:Nat} {d:Int} (hd:1 ≤ d):0 ≤ (n:Int).tmod d∧(n:Int).tmod d < d:=⟨Int.tmod_nonneg _ (by omega),Int.tmod_lt_of_pos _ (by omega)⟩
theorem L5r {x:Span} {picks:List UH} {i:Nat} (h:x.low ≤ x.high):x.low ≤ (L5f x picks i).low∧(L5f x picks i).low ≤ (L5f x picks i).high∧(L5f x picks i).high ≤ x.high:=by
  have h1:=L3d (n:=L0e picks (2 * i)) (d:=x.high - x.low + 1) (by omega)
  have h2:=L3d (n:=L0e picks (2 * i + 1)) (d:=x.high - (x.low + (((L0e picks (2 * i):Nat):Int).tmod (x.high - x.low + 1))) + 1) (by omega)
  unfold L5f
  simp only
  omega
theorem L5s {one:List Span} {picks:List UH} {n i:Nat} {y:Span} (h:(L1c one picks n)[i]? = some y):i < n∧y = L5f (L3n one i) picks i:=by
  unfold L1c at h
  rw [List.getElem?_map] at h
  obtain ⟨a,ha,rfl⟩:=Option.map_eq_some_iff.1 h
  obtain ⟨h1,h2⟩:=List.getElem?_eq_some_iff.1 ha
  rw [List.length_range] at h1
  rw [List.getElem_range] at h2
  subst h2; exact ⟨h1,rfl⟩
theorem L2q {r:GRule} {one:List Span} {picks:List UH} (h:L0f r one = 0):L0f r (L1c one picks r.measures.length) = 0:=by
  obtain ⟨h1,h2⟩:=L1u.1 h
  refine L1u.2 ⟨h1,by simp [L1c],fun i y hy=>?_⟩
  obtain ⟨hi,rfl⟩:=L5s hy
  have hx:one[i]? = some (one[i]'(by rw [h2.len]; exact hi)):=List.getElem?_eq_getElem _
  have h3:=h2.at_ i _ hx
  rw [L1v hx]
  have:=L5r (picks:=picks) (i:=i) h3.2.1
  omega
/-- The values of some of the readings lie in those of all. -/
theorem L4l {r:GRule} {one:List Span} {picks:List UH} (h:L0f r one = 0) {i:Nat} {x y:Span} (hx:(L0a r (L1c one picks r.measures.length))[i]? = some x) (hy:(L0a r one)[i]? = some y):y.low ≤ x.low∧x.low ≤ x.high∧x.high ≤ y.high:=by
  obtain ⟨m1,z1,a1,a2,rfl,a4,a5⟩:=L3r (L2q (picks:=picks) h) hx
  obtain ⟨m2,z2,b1,b2,rfl,b4,b5⟩:=L3r h hy
  rw [a1] at b1; cases b1
  obtain ⟨_,rfl⟩:=L5s a2
  rw [L1v b2] at a5 ⊢
  have h1:=L5r (picks:=picks) (i:=i) b5.2.1
  have h2:=L6j (l:=m1.points) h1.2.1 h1.1 h1.2.2
  have h3:=L6z a4 a5.1 a5.2.1 a5.2.2
  omega
def L0z (r:GRule) (a b:List Span):Market:=⟨[(ByteArray.mk #[97,108,108])],r.measures.map Meas.name,[⟨(ByteArray.mk #[102,105,114,115,116]),0,⟨0,0⟩,a⟩,⟨(ByteArray.mk #[115,101,99,111,110,100]),0,⟨0,0⟩,b⟩],[]⟩
theorem L6x {r:GRule} {one two:List Span} {picks:List UH} (h1:L0f r one = 0) (hm:Cf (L0z r (L0a r one) (L0a r two)) = 0) :
    Ee (L0z r (L0a r one) (L0a r two)) (L0a r one) = 0∧Ee (L0z r (L0a r one) (L0a r two)) (L0a r (L1c one picks r.measures.length)) = 0 ∧
    (0:Int) ∈ Sn (L0z r (L0a r one) (L0a r two)) (L0a r one)∧(0:Int) ∈ Sn (L0z r (L0a r one) (L0a r two)) (L0a r (L1c one picks r.measures.length)) ∧
    ∀ z ∈ Sn (L0z r (L0a r one) (L0a r two)) (L0a r (L1c one picks r.measures.length)),z ∈ Sn (L0z r (L0a r one) (L0a r two)) (L0a r one):=by
  generalize hM:L0z r (L0a r one) (L0a r two) = M at *
  have hf:M.fields[0]? = some ⟨(ByteArray.mk #[102,105,114,115,116]),0,⟨0,0⟩,L0a r one⟩:=by subst hM; rfl
  have hmk:M.marks.length = r.measures.length:=by subst hM; simp [L0z]
  have ok:=Rg hm
  have h3:=(ok.field 0 _ hf).2.2.2.2
  simp only at h3
  have hl:=L2q (picks:=picks) h1
  have l1:=L1g h1
  have l2:=L1g hl
  have hsub:∀ (j:Nat) (x y:Span),(L0a r (L1c one picks r.measures.length))[j]? = some x→(L0a r one)[j]? = some y→y.low ≤ x.low∧x.high ≤ y.high:=fun j x y hx hy=>by have:=L4l h1 hx hy; omega
  have get:∀ (j:Nat) (x:Span),(L0a r (L1c one picks r.measures.length))[j]? = some x→∃ y,(L0a r one)[j]? = some y:=fun j x hx=>⟨(L0a r one)[j]'(by have:=(List.getElem?_eq_some_iff.1 hx).1; omega),List.getElem?_eq_getElem _⟩
  have A1:Ee M (L0a r one) = 0:=L3x hm (by omega) h3.2
  have A2:Ee M (L0a r (L1c one picks r.measures.length)) = 0:=L3x hm (by omega) fun j x hx=>by
    obtain ⟨y,hy⟩:=get j x hx
    have:=L4l h1 hx hy
    have:=h3.2 j y hy
    unfold Qt at this ⊢; omega
  let v:Nat→Int:=fun j=>match (L0a r (L1c one picks r.measures.length))[j]? with | some x=>x.low | none=>0
  have hv:∀ (j:Nat) (y:Span),(L0a r one)[j]? = some y→y.low ≤ v j∧v j ≤ y.high:=fun j y hy=>by
    have hx:(L0a r (L1c one picks r.measures.length))[j]? = some ((L0a r (L1c one picks r.measures.length))[j]'(by have:=(List.getElem?_eq_some_iff.1 hy).1; omega)):=List.getElem?_eq_getElem _
    have h4:=L4l h1 hx hy
    have e:v j = ((L0a r (L1c one picks r.measures.length))[j]'(by have:=(List.getElem?_eq_some_iff.1 hy).1; omega)).low:=by show (match (L0a r (L1c one picks r.measures.length))[j]? with | some x=>x.low | none=>0) = _; rw [hx]
    rw [e]; omega
  refine ⟨A1,A2,L4c (i:=0) (v:=v) hf A1 hv hv,L4c (i:=0) (v:=v) hf A2 hv fun j x hx=>?_,fun z hz=>L5j A1 (by omega) hsub hz⟩
  obtain ⟨y,hy⟩:=get j x hx
  have h4:=L4l h1 hx hy
  have e:v j = x.low:=by show (match (L0a r (L1c one picks r.measures.length))[j]? with | some x=>x.low | none=>0) = _; rw [hx]
  rw [e]; omega
end Go.Proofs.YtphgjjmlnkgghaaGreatDoor

namespace Go.Proofs.YtphgjjmlnkgghaaGreatDoor
set_option maxHeartbeats 1000000
open Go
section
variable {mn:Bool} {X:Frame→List Frame→Ro→Own→Cy→Prop} {ρ:Ro} {σ:Own}
theorem L2n {r:GRule} {vr:Value} {l:List Span} {vl:Value} (h0:L0f r l = 0) (rr:Val ρ vr r) (rl:Val ρ vl l):CallsH (CX mn X) 12 #[vr,vl] ρ σ (fun w ρ' σ'=>Ro.le ρ ρ'∧σ' = σ∧∃ v0,w = .tuple #[v0,.int .i64 0]∧Val ρ' v0 (L0a r l:List Span)):=by
 have h:=L6c (mn:=mn) (X:=X) (σ:=σ) rr rl
 rw [h0] at h; exact h
theorem L3g {o m:Market} {vm:Value} (e:o = m) (rm:Val ρ vm o):CallsH (CX mn X) 13 #[vm] ρ σ (fun w ρ' σ'=>ρ' = ρ∧σ' = σ∧w = iV (Cf m)):=by
 subst e; exact L3u rm
theorem L3y {o m:Market} {marks:List Span} {vm vk:Value} {l:List Int} (e:o = m) (hA:Ee m marks = 0) (hl:Sn m marks = l) (rm:Val ρ vm o) (rk:Val ρ vk marks):CallsH (CX mn X) 14 #[vm,vk] ρ σ (fun w ρ' σ'=>Ro.le ρ ρ'∧σ' = σ∧∃ v0,w = .tuple #[v0,.int .i64 0]∧Val ρ' v0 (l:List Int)):=by
 subst e; exact L6a hA hl rm rk
end
set_option maxHeartbeats 4000000 in
set_option maxRecDepth 100000 in
theorem L5d  {ρ:Ro} {σ:Own} {r:GRule} {one two:List Span} {picks:List UH} {vr vo vt vk:Value} (hg:Glob ρ) (hnr:Jp σ) (rr:Val ρ vr r) (ro:Val ρ vo one) (rt:Val ρ vt two) (rk:Val ρ vk picks):Agd (CX true (Ade Tryz.prog)) 3 8 [vr,vo,vt,vk] ρ σ (fun w ρ' σ'=>ρ' = ρ∧σ' = σ∧w = (.bool (true))):=by
 refine body_fn (n:=209) Tryz.func3 rfl rfl rfl rfl fun Q hret hnor=>?_
 refine w_q rfl rfl fun K1 k1=>?_
 refine Arv (Eb (v:=vr) rfl fun k2=>?_)
 refine Bb (a:=r) rr fun ρ2 l2 r2=>?_
 replace ro:=Asj l2 ro
 replace rt:=Asj l2 rt
 replace rk:=Asj l2 rk
 replace hg:=Glob.mono l2 hg
 refine l_v (Cp (v:=(.bool (false))) rfl) ?_
 refine Ary rfl rfl k1 fun K3 K4 k3 k4=>?_
 refine Arw (Ax L1e rfl r2) fun v5 r5=>?_
 refine Arv (Cm (vs:=[v5]) (L6m r5) Tryz.func7 rfl rfl ⟨rfl,trivial⟩ fun w6 ρ6 σ6 hc6=>?_)
 obtain ⟨hr6,hs6,b6_,hw6⟩:=hc6
 replace hr6:=hr6.symm; replace hs6:=hs6.symm; subst hr6 hs6 hw6
 refine l_v (Ah (v:=(.bool (b6_))) rfl) ?_
 refine Cn (b6_) (fun b7=>?_) (fun b7=>?_)
 ·refine Ap (Bl rfl rfl rfl b7) ?_
  refine Ap (Bl rfl rfl rfl b7) ?_
  refine Ap (Bl rfl rfl rfl b7) ?_
  refine Ap (Bl rfl rfl rfl b7) ?_
  refine l_v (Bt rfl b7 (v:=(.bool (true))) rfl) ?_
  refine l_v (Ah (v:=(.bool (true))) rfl) ?_
  refine Ap (Bl rfl rfl rfl rfl) ?_
  refine Ap (Bl rfl rfl rfl rfl) ?_
  refine Ap (Bl rfl rfl rfl rfl) ?_
  refine Ap (Bl rfl rfl rfl rfl) ?_
  refine l_v (Bt rfl rfl (v:=(.bool (true))) rfl) ?_
  refine l_v (Ah (v:=(.bool (true))) rfl) ?_
  refine Ap (Bl rfl rfl rfl rfl) ?_
  refine Ap (Bl rfl rfl rfl rfl) ?_
  refine Ap (Bl rfl rfl rfl rfl) ?_
  refine Ap (Bl rfl rfl rfl rfl) ?_
  refine l_v (Bt rfl rfl (v:=(.bool (true))) rfl) ?_
  refine l_k k4 ?_
  refine Co rfl rfl ?_
  refine w_q rfl rfl fun K8 k8=>?_
  refine Arv (Bm (c_tells hg hnr) Tryz.func9 rfl rfl trivial ?_)
  refine l_v (Cp (v:=(.bool (true))) rfl) ?_
  refine l_k k8 ?_
  refine Aj (Asf l2) ?_
  refine Aq ?_
  refine hret _ _ _ ⟨rfl,rfl,Eq.trans (b:=(.bool (true))) rfl ?_⟩
  rfl
 refine Ak (Ar rfl rfl rfl b7) (Ax L1e rfl r2) fun v9 r9=>?_
 refine l_M vo (Ar rfl rfl rfl b7) rfl ?_
 refine Ae (Ar rfl rfl rfl b7) (Bm (L3h r9 ro) Tryz.func8 rfl rfl ⟨rfl,rfl,trivial⟩ ?_)
 refine Aa (Ar rfl rfl rfl b7) (Dg rfl rfl) ?_
 refine l_v (Bn rfl b7 (v:=(.bool (L0f r one != 0))) rfl) ?_
 refine l_v (Ah (v:=(.bool (L0f r one != 0))) rfl) ?_
 refine Cn (L0f r one != 0) (fun b10=>?_) (fun b10=>?_)
 ·have q10:=Ls b10
  refine Ap (Bl rfl rfl rfl b10) ?_
  refine Ap (Bl rfl rfl rfl b10) ?_
  refine Ap (Bl rfl rfl rfl b10) ?_
  refine Ap (Bl rfl rfl rfl b10) ?_
  refine l_v (Bt rfl b10 (v:=(.bool (true))) rfl) ?_
  refine l_v (Ah (v:=(.bool (true))) rfl) ?_
  refine Ap (Bl rfl rfl rfl rfl) ?_
  refine Ap (Bl rfl rfl rfl rfl) ?_
  refine Ap (Bl rfl rfl rfl rfl) ?_
  refine Ap (Bl rfl rfl rfl rfl) ?_
  refine l_v (Bt rfl rfl (v:=(.bool (true))) rfl) ?_
  refine l_k k4 ?_
  refine Co rfl rfl ?_
  refine w_q rfl rfl fun K11 k11=>?_
  refine Arv (Bm (c_tells hg hnr) Tryz.func9 rfl rfl trivial ?_)
  refine l_v (Cp (v:=(.bool (true))) rfl) ?_
  refine l_k k11 ?_
  refine Aj (Asf l2) ?_
  refine Aq ?_
  refine hret _ _ _ ⟨rfl,rfl,Eq.trans (b:=(.bool (true))) rfl ?_⟩
  rfl
 have hr1:=Jh b10
 obtain ⟨hrr,hro⟩:=L1u.1 hr1
 have rok:=L3c hrr
 have hn6:=rok.n6
 have hl1:=hro.len
 have q10:=Jh b10
 refine Ak (Ar rfl rfl rfl b10) (Ax L1e rfl r2) fun v12 r12=>?_
 refine l_M vt (Ar rfl rfl rfl b10) rfl ?_
 refine Ae (Ar rfl rfl rfl b10) (Bm (L3h r12 rt) Tryz.func8 rfl rfl ⟨rfl,rfl,trivial⟩ ?_)
 refine Aa (Ar rfl rfl rfl b10) (Dg rfl rfl) ?_
 refine l_v (Bn rfl b10 (v:=(.bool (L0f r two != 0))) rfl) ?_
 refine l_v (Ah (v:=(.bool (L0f r two != 0))) rfl) ?_
 refine Cn (L0f r two != 0) (fun b13=>?_) (fun b13=>?_)
 ·have q13:=Ls b13
  refine Ap (Bl rfl rfl rfl b13) ?_
  refine Ap (Bl rfl rfl rfl b13) ?_
  refine Ap (Bl rfl rfl rfl b13) ?_
  refine Ap (Bl rfl rfl rfl b13) ?_
  refine l_v (Bt rfl b13 (v:=(.bool (true))) rfl) ?_
  refine l_k k4 ?_
  refine Co rfl rfl ?_
  refine w_q rfl rfl fun K14 k14=>?_
  refine Arv (Bm (c_tells hg hnr) Tryz.func9 rfl rfl trivial ?_)
  refine l_v (Cp (v:=(.bool (true))) rfl) ?_
  refine l_k k14 ?_
  refine Aj (Asf l2) ?_
  refine Aq ?_
  refine hret _ _ _ ⟨rfl,rfl,Eq.trans (b:=(.bool (true))) rfl ?_⟩
  rfl
 have hr2:=Jh b13
 have q13:=Jh b13
 refine Ak (Ar rfl rfl rfl b13) (Ay GRule.f_measures Tryz.underlying25 rfl rfl L0g (by decide) rfl r2) fun v15 r15=>?_
 refine Ak (Ar rfl rfl rfl b13) (Ax L0g rfl r15) fun v16 r16=>?_
 have g17:=Val.len r16
 refine Aa (Ar rfl rfl rfl b13) (Ci (el:=39) Tryz.underlying22 rfl r16) ?_
 refine Aa (Ar rfl rfl rfl b13) (Gl rfl rfl) ?_
 refine l_v (Bn rfl b13 (v:=(.bool (decide (((r.measures.length:Nat):Int) > 4)))) rfl) ?_
 refine l_k k4 ?_
 refine As (t:=decide (((r.measures.length:Nat):Int) > 4)) rfl (fun b18=>?_) (fun b18=>?_)
 ·have q18:=of_decide_eq_true b18
  refine w_q rfl rfl fun K19 k19=>?_
  refine Arv (Bm (c_tells hg hnr) Tryz.func9 rfl rfl trivial ?_)
  refine l_v (Cp (v:=(.bool (true))) rfl) ?_
  refine l_k k19 ?_
  refine Aj (Asf l2) ?_
  refine Aq ?_
  refine hret _ _ _ ⟨rfl,rfl,Eq.trans (b:=(.bool (true))) rfl ?_⟩
  rfl
 have q18:=of_decide_eq_false b18
 refine Al ?_
 apply k3
 refine w_q rfl rfl fun K20 k20=>?_
 refine Arv (Bi (α:=ByteArray) (xs:=[(ByteArray.mk #[97,108,108])]) (vs:=[(.string ((ByteArray.mk #[97,108,108])))]) Tryz.underlying32 ty9 zr9 rfl (by decide) (Dk (os:=[.const (.string (ByteArray.mk #[97,108,108]))]) ⟨rfl,trivial⟩) ⟨(Jk.2 ⟨rfl,Nat.le_of_ble_eq_true rfl⟩),trivial⟩ rfl (by decide) fun k21 cs21 R21=>?_)
 have G21:Grow ρ2 9 (.slice (some ⟨k21,0,none⟩) 1 1) ([(ByteArray.mk #[97,108,108])]:List ByteArray) [(k21,oC cs21.toArray 9)]:=Bs R21 rfl (by decide)
 refine Ca G21 fun ρ22 l22 r22=>?_
 replace ro:=Asj l22 ro
 replace rt:=Asj l22 rt
 replace rk:=Asj l22 rk
 replace hg:=Glob.mono l22 hg
 replace r2:=At.mono l22 r2
 have r23:Val ρ22 (.agg #[(.slice (some ⟨k21,0,none⟩) 1 1),(.slice none 0 0),(.slice none 0 0),(.slice none 0 0)]) (⟨([(ByteArray.mk #[97,108,108])]:List ByteArray),[],[],[]⟩:Market):=Market.shut (x:=(⟨([(ByteArray.mk #[97,108,108])]:List ByteArray),[],[],[]⟩:Market)) r22 Gx Gx Gx
 refine l_v (Dn (ns:=[1,1,1,1]) (vs:=[(0,(.slice (some ⟨k21,0,none⟩) 1 1))]) (zc:=Amj) (cs:=[(.slice (some ⟨k21,0,none⟩) 1 1),(.slice none 0 0),(.slice none 0 0),(.slice none 0 0)]) Tryz.underlying36 Apg rfl ⟨⟨_,Ab Tryz.typeInfo32,rfl⟩,⟨_,Ab Tryz.typeInfo32,rfl⟩,⟨_,Ab Tryz.typeInfo33,rfl⟩,⟨_,Ab Tryz.typeInfo34,rfl⟩,trivial⟩ (EvB.map ⟨⟨rfl,rfl⟩,trivial⟩) ((Be (cs:=[(.slice (some ⟨k21,0,none⟩) 1 1)]) (Val.cells_l r22) rfl (Nat.le_of_ble_eq_true rfl)).trans rfl)) ?_
 refine Arv (Ct Apg fun k24=>?_)
 refine Cx rfl (Li (i:=0) (vs:=[(.slice (some ⟨k21,0,none⟩) 1 1),(.slice none 0 0),(.slice none 0 0),(.slice none 0 0)]) (c':=[(.slice (some ⟨k21,0,none⟩) 1 1),(.slice none 0 0),(.slice none 0 0),(.slice none 0 0)]) ⟨_,Ab Tryz.typeInfo36,rfl⟩ rfl rfl rfl rfl (Zh ⟨(Val.single_l r22),rfl,rfl,rfl,trivial⟩) rfl (Nat.le_of_ble_eq_true rfl) rfl ?_)
 refine Arx rfl rfl k20 fun K25 k25=>?_
 refine l_v (Cp (v:=(.slice none 0 0)) rfl) ?_
 refine Ary rfl rfl k25 fun K26 K27 k26 k27=>?_
 refine l_v (Cp (v:=(iV (0))) rfl) ?_
 refine l_k k27 ?_
 refine Ao ?_
 refine Cc (fun mm ee dd ρ' σ'=>∃ (i:Nat) (ov28_9c1:Value) (og28_9c1:Own) (ov28_10:Value) (og28_10:Own),(r.measures.length - i) = mm∧[] = dd∧Ro.le ρ22 ρ'∧(og28_9c1 ++ (og28_10 ++ ((k24,oC #[(.slice (some ⟨k21,0,none⟩) 1 1),ov28_9c1,(.slice none 0 0),(.slice none 0 0)] 36) :: σ))) = σ'∧ee 1 = vo∧ee 2 = vt∧ee 3 = vk∧ee 4 = (.pointer (some ⟨k2,0,none⟩))∧ee 9 = (.pointer (some ⟨k24,0,none⟩))∧ee 10 = ov28_10∧ee 11 = (iV ((i:Int)))∧(i ≤ r.measures.length)∧Grow ρ' 9 ov28_9c1 ((r.measures.take i).map Meas.name) og28_9c1∧Grow ρ' 41 ov28_10 (L1c one picks i) og28_10∧True) (m:=_) ⟨0,(.slice none 0 0),[],(.slice none 0 0),[],rfl,rfl,Ash,rfl,rfl,rfl,rfl,rfl,rfl,rfl,rfl,(Nat.zero_le _),(Fy (by simp) Hm),Hm,trivial⟩ ?_
 rintro m28 e28 _ ρ28 _ ⟨i,ov28_9c1,og28_9c1,ov28_10,og28_10,rfl,rfl,l28,rfl,h28_1,h28_2,h28_3,h28_4,h28_9,h28_10,h28_11,p28_0,OG28_9c1,OG28_10,_⟩
 replace ro:=Asj l28 ro
 replace rt:=Asj l28 rt
 replace rk:=Asj l28 rk
 replace hg:=Glob.mono l28 hg
 replace r2:=At.mono l28 r2
 replace r22:=Asj l28 r22
 refine Asb rfl rfl fun K29 K30 k29 k30=>?_
 refine l_v (Ah (v:=(iV ((i:Int)))) h28_11) ?_
 refine Arw (Ay GRule.f_measures Tryz.underlying25 rfl rfl L0g (by decide) h28_4 r2) fun v31 r31=>?_
 refine Arw (Ax L0g rfl r31) fun v32 r32=>?_
 have g33:=Val.len r32
 refine l_v (Ci (el:=39) Tryz.underlying22 rfl r32) ?_
 refine l_v (Da rfl rfl) ?_
 refine l_k k30 ?_
 refine As (t:=decide ((i:Int) < ((r.measures.length:Nat):Int))) rfl (fun b34=>?_) (fun b34=>?_)
 ·have q34:=of_decide_eq_true b34
  refine Al ?_
  apply k29
  refine Ai fun K35 k35=>?_
  refine Ao ?_
  refine Ai fun K36 k36=>?_
  refine L2z ((og28_10 ++ ((k24,oC #[(.slice (some ⟨k21,0,none⟩) 1 1),ov28_9c1,(.slice none 0 0),(.slice none 0 0)] 36) :: []))) [0,1,2,3,4,5,6,7,8,9,10] (by kernel_rfl) rfl rfl ?_
  refine L1a (i:=0) [o1,o0,o0,o0,o0,o0,o0,o0,o0,o0,o0,o0] rfl (by kernel_rfl) rfl ⟨Ash,(by repeat first | exact L0o | refine L0l ?_ | refine L0m ?_ | refine L0k ?_ | refine L0n ?_)⟩ rfl (Yld.o (Cb Tryz.underlying36 rfl rfl ⟨_,Ab Tryz.typeInfo32,rfl⟩ (by decide) h28_9 rfl)) ?_
  refine L1a (i:=1) [o1,o1,o0,o0,o0,o0,o0,o0,o0,o0,o0,o0] rfl (by kernel_rfl) rfl ⟨Ash,(by repeat first | exact L0o | refine L0l ?_ | refine L0m ?_ | refine L0k ?_ | refine L0n ?_)⟩ rfl (L1k (v:=ov28_9c1) ⟨_,Tryz.underlying32,rfl⟩ rfl (List.mem_append_right _ (List.mem_cons_self ..)) rfl) ?_
  refine L2c (i:=2) [o1,o1,o1,o0,o0,o0,o0,o0,o0,o0,o0,o0] rfl (by kernel_rfl) rfl ⟨Ash,(by repeat first | exact L0o | refine L0l ?_ | refine L0m ?_ | refine L0k ?_ | refine L0n ?_)⟩ rfl (L1o (Ay GRule.f_measures Tryz.underlying25 rfl rfl L0g (by decide) h28_4 r2)) fun v37 r37=>?_
  refine L2c (i:=3) [o1,o1,o1,o1,o0,o0,o0,o0,o0,o0,o0,o0] rfl (by kernel_rfl) rfl ⟨Ash,(by repeat first | exact L0o | refine L0l ?_ | refine L0m ?_ | refine L0k ?_ | refine L0n ?_)⟩ rfl (L1o (Ax L0g rfl r37)) fun v38 r38=>?_
  refine L1l (i:=4) [o1,o1,o1,o1,o1,o0,o0,o0,o0,o0,o0,o0] rfl (by kernel_rfl) rfl ⟨Ash,(by repeat first | exact L0o | refine L0l ?_ | refine L0m ?_ | refine L0k ?_ | refine L0n ?_)⟩ rfl (Yld.o (Ah (v:=(iV ((i:Int)))) h28_11)) ⟨Ash,(by repeat first | exact L0o | refine L0l ?_ | refine L0m ?_ | refine L0k ?_ | refine L0n ?_)⟩ ?_
  obtain ⟨a40,ha40⟩:=Ed (xs:=r.measures) (i:=i) (by omega)
  refine L5w (i:=5) [o1,o1,o1,o1,o1,o1,o0,o0,o0,o0,o0,o0] rfl (by kernel_rfl) rfl ⟨Ash,(by repeat first | exact L0o | refine L0l ?_ | refine L0m ?_ | refine L0k ?_ | refine L0n ?_)⟩ rfl (L1o (Ch i Tryz.underlying22 L1f rfl r38 (q:=(i:Int)) rfl rfl ha40)) ⟨Ash,(by repeat first | exact L0o | refine L0l ?_ | refine L0m ?_ | refine L0k ?_ | refine L0n ?_)⟩ fun v39 r39=>?_
  refine L5w (i:=6) [o1,o1,o1,o1,o1,o1,o1,o0,o0,o0,o0,o0] rfl (by kernel_rfl) rfl ⟨Ash,(by repeat first | exact L0o | refine L0l ?_ | refine L0m ?_ | refine L0k ?_ | refine L0n ?_)⟩ rfl (L1o (Ay Meas.f_name Tryz.underlying39 rfl rfl ty9 (by decide) rfl r39)) ⟨Ash,(by repeat first | exact L0o | refine L0l ?_ | refine L0m ?_ | refine L0k ?_ | refine L0n ?_)⟩ fun v41 r41=>?_
  have g42:=At.slen r41
  refine L1l (i:=7) [o1,o1,o1,o1,o1,o1,o1,o1,o0,o0,o0,o0] rfl (by kernel_rfl) rfl ⟨Ash,(by repeat first | exact L0o | refine L0l ?_ | refine L0m ?_ | refine L0k ?_ | refine L0n ?_)⟩ rfl (Yld.o (Pk ty9 rfl r41)) ⟨Ash,(by repeat first | exact L0o | refine L0l ?_ | refine L0m ?_ | refine L0k ?_ | refine L0n ?_)⟩ ?_
  refine L2m (i:=8) Aoo rfl (by kernel_rfl) rfl rfl (Bi (α:=ByteArray) (xs:=[a40.name]) (vs:=[(.string (a40.name))]) Tryz.underlying32 ty9 zr9 rfl (by decide) (Dk (os:=[.tmp 59]) ⟨rfl,trivial⟩) ⟨(Jk.2 ⟨rfl,by omega⟩),trivial⟩ rfl (by decide) fun k43 cs43 R43=>⟨⟨Ash,(by repeat first | exact L0o | refine L0l ?_ | refine L0m ?_ | refine L0k ?_ | refine L0n ?_)⟩,?_⟩)
  have G43:Grow ρ28 9 (.slice (some ⟨k43,0,none⟩) 1 1) ([a40.name]:List ByteArray) [(k43,oC cs43.toArray 9)]:=Bs R43 rfl (by decide)
  refine L6h G43 (by repeat first | exact L0o | refine L0l ?_ | refine L0m ?_ | refine L0k ?_ | refine L0n ?_) fun ρ45 l45 r45=>?_
  replace ro:=Asj l45 ro
  replace rk:=Asj l45 rk
  replace OG28_9c1:=Grow.mono l45 OG28_9c1
  replace OG28_10:=Grow.mono l45 OG28_10
  refine L2m (i:=9) Amg rfl (by kernel_rfl) rfl rfl (Gc (σ:=(og28_10 ++ ((k24,oC #[(.slice (some ⟨k21,0,none⟩) 1 1),ov28_9c1,(.slice none 0 0),(.slice none 0 0)] 36) :: σ))) (gr:=og28_9c1) (xs:=(r.measures.take i).map Meas.name) (ys:=([a40.name]:List ByteArray)) Tryz.underlying32 Tryz.underlying32 (Ab Tryz.typeInfo9) rfl (Nat.le_of_ble_eq_true rfl) rfl rfl rfl rfl OG28_9c1 r45 (by simp only [List.length_append,List.length_map,List.length_range,List.length_take,List.length_cons,List.length_nil,L1c] at *; omega) fun v44 gr44 G44=>⟨⟨l45,(by repeat first | exact L0o | refine L0l ?_ | refine L0m ?_ | refine L0k ?_ | refine L0n ?_)⟩,?_⟩)
  refine L1l (i:=10) zZ0 rfl (by kernel_rfl) rfl ⟨l45,(by repeat first | exact L0o | refine L0l ?_ | refine L0m ?_ | refine L0k ?_ | refine L0n ?_)⟩ rfl (Yld.o (Cb Tryz.underlying36 rfl rfl ⟨_,Ab Tryz.typeInfo32,rfl⟩ (by decide) h28_9 rfl)) ⟨Ash,(by repeat first | exact L0o | refine L0l ?_ | refine L0m ?_ | refine L0k ?_ | refine L0n ?_)⟩ ?_
  refine L8a ((p_a Asd).trans Asd) ?_
  refine L3a (i:=11) zZ1 rfl (by kernel_rfl) (by kernel_rfl) rfl rfl (Cz (j:=0) (v:=v44) ⟨_,Ab Tryz.typeInfo32,rfl⟩ rfl rfl (Grow.single G44) rfl (Nat.le_of_ble_eq_true rfl) ?_)
  refine L5v rfl ?_
  apply k36
  refine Ai fun K46 k46=>?_
  refine Dc [0,1,2,3,4,5,6,7,8,9,10,11,12,13,14,15,16,17,18,19,20,21,22,23] (by kernel_rfl) rfl rfl ?_
  refine Bd (i:=0) [o1,o0,o0,o0,o0,o0,o0,o0,o0,o0,o0,o0,o0,o0,o0,o0,o0,o0,o0,o0,o0,o0,o0,o0] rfl (by kernel_rfl) rfl Ash rfl (Ah (v:=vo) h28_1) ?_
  refine Bd (i:=1) [o1,o1,o0,o0,o0,o0,o0,o0,o0,o0,o0,o0,o0,o0,o0,o0,o0,o0,o0,o0,o0,o0,o0,o0] rfl (by kernel_rfl) rfl Ash rfl (Ah (v:=(iV ((i:Int)))) h28_11) ?_
  obtain ⟨a48,ha48⟩:=Ed (xs:=one) (i:=i) (by omega)
  obtain ⟨wa48_1,wa48_2,wa48_3⟩:=hro.at_ _ _ ha48
  refine Cd (i:=2) [o1,o1,o1,o0,o0,o0,o0,o0,o0,o0,o0,o0,o0,o0,o0,o0,o0,o0,o0,o0,o0,o0,o0,o0] rfl (by kernel_rfl) rfl Ash rfl (Ch i Tryz.underlying26 Mx rfl ro (q:=(i:Int)) rfl rfl ha48) fun v47 r47=>?_
  refine Cd (i:=3) [o1,o1,o1,o1,o0,o0,o0,o0,o0,o0,o0,o0,o0,o0,o0,o0,o0,o0,o0,o0,o0,o0,o0,o0] rfl (by kernel_rfl) rfl Ash rfl (Ay Span.f_low Tryz.underlying41 rfl rfl ty3 (by decide) rfl r47) fun v49 r49=>?_
  have ⟨g50a,g50b⟩:=At.rng r49
  refine Bd (i:=4) [o1,o1,o1,o1,o1,o0,o0,o0,o0,o0,o0,o0,o0,o0,o0,o0,o0,o0,o0,o0,o0,o0,o0,o0] rfl (by kernel_rfl) rfl Ash rfl (Bc ty3 rfl r49) ?_
  refine Bd (i:=5) [o1,o1,o1,o1,o1,o1,o0,o0,o0,o0,o0,o0,o0,o0,o0,o0,o0,o0,o0,o0,o0,o0,o0,o0] rfl (by kernel_rfl) rfl Ash rfl (Ah (v:=vk) h28_3) ?_
  refine Bd (i:=6) [o1,o1,o1,o1,o1,o1,o1,o0,o0,o0,o0,o0,o0,o0,o0,o0,o0,o0,o0,o0,o0,o0,o0,o0] rfl (by kernel_rfl) rfl Ash rfl (Ah (v:=(iV ((i:Int)))) h28_11) ?_
  refine Bd (i:=7) [o1,o1,o1,o1,o1,o1,o1,o1,o0,o0,o0,o0,o0,o0,o0,o0,o0,o0,o0,o0,o0,o0,o0,o0] rfl (by kernel_rfl) rfl Ash rfl (Wq rfl rfl (z:=(((2 * i):Nat):Int)) (Bo (by first | rfl | omega | (push_cast; rfl)) (by omega) (by omega))) ?_
  refine Bd (i:=9) [o1,o1,o1,o1,o1,o1,o1,o1,o0,o1,o0,o0,o0,o0,o0,o0,o0,o0,o0,o0,o0,o0,o0,o0] rfl (by kernel_rfl) rfl Ash rfl (Ah (v:=vo) h28_1) ?_
  refine Bd (i:=10) [o1,o1,o1,o1,o1,o1,o1,o1,o0,o1,o1,o0,o0,o0,o0,o0,o0,o0,o0,o0,o0,o0,o0,o0] rfl (by kernel_rfl) rfl Ash rfl (Ah (v:=(iV ((i:Int)))) h28_11) ?_
  refine Cd (i:=11) [o1,o1,o1,o1,o1,o1,o1,o1,o0,o1,o1,o1,o0,o0,o0,o0,o0,o0,o0,o0,o0,o0,o0,o0] rfl (by kernel_rfl) rfl Ash rfl (Ch i Tryz.underlying26 Mx rfl ro (q:=(i:Int)) rfl rfl ha48) fun v51 r51=>?_
  refine Cd (i:=12) [o1,o1,o1,o1,o1,o1,o1,o1,o0,o1,o1,o1,o1,o0,o0,o0,o0,o0,o0,o0,o0,o0,o0,o0] rfl (by kernel_rfl) rfl Ash rfl (Ay Span.f_high Tryz.underlying41 rfl rfl ty3 (by decide) rfl r51) fun v52 r52=>?_
  have ⟨g53a,g53b⟩:=At.rng r52
  refine Bd (i:=13) [o1,o1,o1,o1,o1,o1,o1,o1,o0,o1,o1,o1,o1,o1,o0,o0,o0,o0,o0,o0,o0,o0,o0,o0] rfl (by kernel_rfl) rfl Ash rfl (Bc ty3 rfl r52) ?_
  refine Bd (i:=14) [o1,o1,o1,o1,o1,o1,o1,o1,o0,o1,o1,o1,o1,o1,o1,o0,o0,o0,o0,o0,o0,o0,o0,o0] rfl (by kernel_rfl) rfl Ash rfl (Ah (v:=vo) h28_1) ?_
  refine Bd (i:=15) [o1,o1,o1,o1,o1,o1,o1,o1,o0,o1,o1,o1,o1,o1,o1,o1,o0,o0,o0,o0,o0,o0,o0,o0] rfl (by kernel_rfl) rfl Ash rfl (Ah (v:=(iV ((i:Int)))) h28_11) ?_
  refine Cd (i:=16) [o1,o1,o1,o1,o1,o1,o1,o1,o0,o1,o1,o1,o1,o1,o1,o1,o1,o0,o0,o0,o0,o0,o0,o0] rfl (by kernel_rfl) rfl Ash rfl (Ch i Tryz.underlying26 Mx rfl ro (q:=(i:Int)) rfl rfl ha48) fun v54 r54=>?_
  refine Cd (i:=17) [o1,o1,o1,o1,o1,o1,o1,o1,o0,o1,o1,o1,o1,o1,o1,o1,o1,o1,o0,o0,o0,o0,o0,o0] rfl (by kernel_rfl) rfl Ash rfl (Ay Span.f_low Tryz.underlying41 rfl rfl ty3 (by decide) rfl r54) fun v55 r55=>?_
  have ⟨g56a,g56b⟩:=At.rng r55
  refine Bd (i:=18) [o1,o1,o1,o1,o1,o1,o1,o1,o0,o1,o1,o1,o1,o1,o1,o1,o1,o1,o1,o0,o0,o0,o0,o0] rfl (by kernel_rfl) rfl Ash rfl (Bc ty3 rfl r55) ?_
  refine Bd (i:=19) [o1,o1,o1,o1,o1,o1,o1,o1,o0,o1,o1,o1,o1,o1,o1,o1,o1,o1,o1,o1,o0,o0,o0,o0] rfl (by kernel_rfl) rfl Ash rfl (Ou rfl rfl (z:=(a48.high - a48.low)) (Bo (by rfl) (by omega) (by omega))) ?_
  refine Bd (i:=20) [o1,o1,o1,o1,o1,o1,o1,o1,o0,o1,o1,o1,o1,o1,o1,o1,o1,o1,o1,o1,o1,o0,o0,o0] rfl (by kernel_rfl) rfl Ash rfl (Br rfl rfl (z:=((a48.high - a48.low) + 1)) (Bo (by rfl) (by omega) (by omega))) ?_
  have hch57:=L3j (l:=picks) (k:=((2 * i)))
  refine Dj (i:=8) [o1,o1,o1,o1,o1,o1,o1,o1,o1,o1,o1,o1,o1,o1,o1,o1,o1,o1,o1,o1,o1,o0,o0,o0] rfl (by kernel_rfl) rfl rfl (Bm (L4v rk) Tryz.func10 rfl rfl ⟨rfl,rfl,trivial⟩ ⟨Ash,?_⟩)
  have hmod58:=L3d (n:=(L0e picks ((2 * i)))) (d:=((a48.high - a48.low) + 1)) (by omega)
  refine Bg (i:=21) [o1,o1,o1,o1,o1,o1,o1,o1,o1,o1,o1,o1,o1,o1,o1,o1,o1,o1,o1,o1,o1,o1,o0,o0] rfl (by kernel_rfl) rfl Ash rfl (L7f (p:=(((L0e picks ((2 * i))):Nat):Int)) (q:=((a48.high - a48.low) + 1)) rfl rfl (by omega) (z:=(((((L0e picks ((2 * i))):Nat):Int)).tmod (((a48.high - a48.low) + 1)))) rfl) ?_
  refine Bg (i:=22) [o1,o1,o1,o1,o1,o1,o1,o1,o1,o1,o1,o1,o1,o1,o1,o1,o1,o1,o1,o1,o1,o1,o1,o0] rfl (by kernel_rfl) rfl Ash rfl (Br rfl rfl (z:=(a48.low + (((((L0e picks ((2 * i))):Nat):Int)).tmod (((a48.high - a48.low) + 1))))) (Bo (by rfl) (by omega) (by omega))) ?_
  obtain ⟨gn,hgn_⟩:∃ z:Int,z = (a48.low + (((((L0e picks ((2 * i))):Nat):Int)).tmod (((a48.high - a48.low) + 1)))):=⟨_,rfl⟩
  refine Bg (i:=23) [o1,o1,o1,o1,o1,o1,o1,o1,o1,o1,o1,o1,o1,o1,o1,o1,o1,o1,o1,o1,o1,o1,o1,o1] rfl (by kernel_rfl) rfl Ash rfl (Cp (v:=(.int .i64 gn)) ((show _ = Value.int .i64 ((a48.low + (((((L0e picks ((2 * i))):Nat):Int)).tmod (((a48.high - a48.low) + 1))))) from rfl).trans (by rw [hgn_]))) ?_
  have hgnb:=hgn_
  have hgnc:gn ≤ 1000:=by omega
  refine Ec rfl ?_
  apply k46
  refine Dc [0,1,2,3,4,5,6,7,8,9,10,11,12,13,14,15,16,17,18,19,20,21] (by kernel_rfl) rfl rfl ?_
  refine Bd (i:=0) [o1,o0,o0,o0,o0,o0,o0,o0,o0,o0,o0,o0,o0,o0,o0,o0,o0,o0,o0,o0,o0,o0] rfl (by kernel_rfl) rfl Ash rfl (Ah (v:=ov28_10) h28_10) ?_
  refine Bd (i:=1) [o1,o1,o0,o0,o0,o0,o0,o0,o0,o0,o0,o0,o0,o0,o0,o0,o0,o0,o0,o0,o0,o0] rfl (by kernel_rfl) rfl Ash rfl (Ah (v:=(iV (gn))) rfl) ?_
  refine Bd (i:=2) [o1,o1,o1,o0,o0,o0,o0,o0,o0,o0,o0,o0,o0,o0,o0,o0,o0,o0,o0,o0,o0,o0] rfl (by kernel_rfl) rfl Ash rfl (Ah (v:=(iV (gn))) rfl) ?_
  refine Bd (i:=3) [o1,o1,o1,o1,o0,o0,o0,o0,o0,o0,o0,o0,o0,o0,o0,o0,o0,o0,o0,o0,o0,o0] rfl (by kernel_rfl) rfl Ash rfl (Ah (v:=vk) h28_3) ?_
  refine Bd (i:=4) [o1,o1,o1,o1,o1,o0,o0,o0,o0,o0,o0,o0,o0,o0,o0,o0,o0,o0,o0,o0,o0,o0] rfl (by kernel_rfl) rfl Ash rfl (Ah (v:=(iV ((i:Int)))) h28_11) ?_
  refine Bd (i:=5) [o1,o1,o1,o1,o1,o1,o0,o0,o0,o0,o0,o0,o0,o0,o0,o0,o0,o0,o0,o0,o0,o0] rfl (by kernel_rfl) rfl Ash rfl (Wq rfl rfl (z:=(((2 * i):Nat):Int)) (Bo (by first | rfl | omega | (push_cast; rfl)) (by omega) (by omega))) ?_
  refine Bd (i:=6) [o1,o1,o1,o1,o1,o1,o1,o0,o0,o0,o0,o0,o0,o0,o0,o0,o0,o0,o0,o0,o0,o0] rfl (by kernel_rfl) rfl Ash rfl (Br rfl rfl (z:=((((2 * i) + 1):Nat):Int)) (Bo (by first | rfl | omega | (push_cast; rfl)) (by omega) (by omega))) ?_
  refine Bd (i:=8) [o1,o1,o1,o1,o1,o1,o1,o0,o1,o0,o0,o0,o0,o0,o0,o0,o0,o0,o0,o0,o0,o0] rfl (by kernel_rfl) rfl Ash rfl (Ah (v:=vo) h28_1) ?_
  refine Bd (i:=9) [o1,o1,o1,o1,o1,o1,o1,o0,o1,o1,o0,o0,o0,o0,o0,o0,o0,o0,o0,o0,o0,o0] rfl (by kernel_rfl) rfl Ash rfl (Ah (v:=(iV ((i:Int)))) h28_11) ?_
  refine Cd (i:=10) [o1,o1,o1,o1,o1,o1,o1,o0,o1,o1,o1,o0,o0,o0,o0,o0,o0,o0,o0,o0,o0,o0] rfl (by kernel_rfl) rfl Ash rfl (Ch i Tryz.underlying26 Mx rfl ro (q:=(i:Int)) rfl rfl ha48) fun v59 r59=>?_
  refine Cd (i:=11) [o1,o1,o1,o1,o1,o1,o1,o0,o1,o1,o1,o1,o0,o0,o0,o0,o0,o0,o0,o0,o0,o0] rfl (by kernel_rfl) rfl Ash rfl (Ay Span.f_high Tryz.underlying41 rfl rfl ty3 (by decide) rfl r59) fun v60 r60=>?_
  have ⟨g61a,g61b⟩:=At.rng r60
  refine Bd (i:=12) [o1,o1,o1,o1,o1,o1,o1,o0,o1,o1,o1,o1,o1,o0,o0,o0,o0,o0,o0,o0,o0,o0] rfl (by kernel_rfl) rfl Ash rfl (Bc ty3 rfl r60) ?_
  refine Bd (i:=13) [o1,o1,o1,o1,o1,o1,o1,o0,o1,o1,o1,o1,o1,o1,o0,o0,o0,o0,o0,o0,o0,o0] rfl (by kernel_rfl) rfl Ash rfl (Ah (v:=(iV (gn))) rfl) ?_
  refine Bd (i:=14) [o1,o1,o1,o1,o1,o1,o1,o0,o1,o1,o1,o1,o1,o1,o1,o0,o0,o0,o0,o0,o0,o0] rfl (by kernel_rfl) rfl Ash rfl (Ou rfl rfl (z:=(a48.high - gn)) (Bo (by rfl) (by omega) (by omega))) ?_
  refine Bd (i:=15) [o1,o1,o1,o1,o1,o1,o1,o0,o1,o1,o1,o1,o1,o1,o1,o1,o0,o0,o0,o0,o0,o0] rfl (by kernel_rfl) rfl Ash rfl (Br rfl rfl (z:=((a48.high - gn) + 1)) (Bo (by rfl) (by omega) (by omega))) ?_
  have hch62:=L3j (l:=picks) (k:=(((2 * i) + 1)))
  refine Dj (i:=7) [o1,o1,o1,o1,o1,o1,o1,o1,o1,o1,o1,o1,o1,o1,o1,o1,o0,o0,o0,o0,o0,o0] rfl (by kernel_rfl) rfl rfl (Bm (L4v rk) Tryz.func10 rfl rfl ⟨rfl,rfl,trivial⟩ ⟨Ash,?_⟩)
  have hmod63:=L3d (n:=(L0e picks (((2 * i) + 1)))) (d:=((a48.high - gn) + 1)) (by omega)
  refine Bg (i:=16) [o1,o1,o1,o1,o1,o1,o1,o1,o1,o1,o1,o1,o1,o1,o1,o1,o1,o0,o0,o0,o0,o0] rfl (by kernel_rfl) rfl Ash rfl (L7f (p:=(((L0e picks (((2 * i) + 1))):Nat):Int)) (q:=((a48.high - gn) + 1)) rfl rfl (by omega) (z:=(((((L0e picks (((2 * i) + 1))):Nat):Int)).tmod (((a48.high - gn) + 1)))) rfl) ?_
  refine Bg (i:=17) [o1,o1,o1,o1,o1,o1,o1,o1,o1,o1,o1,o1,o1,o1,o1,o1,o1,o1,o0,o0,o0,o0] rfl (by kernel_rfl) rfl Ash rfl (Br rfl rfl (z:=(gn + (((((L0e picks (((2 * i) + 1))):Nat):Int)).tmod (((a48.high - gn) + 1))))) (Bo (by rfl) (by omega) (by omega))) ?_
  refine Dj (i:=18) [o1,o1,o1,o1,o1,o1,o1,o1,o1,o1,o1,o1,o1,o1,o1,o1,o1,o1,o1,o0,o0,o0] rfl (by kernel_rfl) rfl rfl (Cm (vs:=[(iV (gn)),(iV ((gn + (((((L0e picks (((2 * i) + 1))):Nat):Int)).tmod (((a48.high - gn) + 1))))))]) (Hy (a:=gn) (b:=(gn + (((((L0e picks (((2 * i) + 1))):Nat):Int)).tmod (((a48.high - gn) + 1))))) (by constructor <;> omega) (by constructor <;> omega)) Tryz.func11 rfl rfl ⟨rfl,rfl,trivial⟩ fun v64 ρ64 σ64 hc64=>?_)
  obtain ⟨l64,s64,r64⟩:=hc64
  replace s64:=s64.symm; subst s64
  replace OG28_10:=Grow.mono l64 OG28_10
  replace G44:=Grow.mono l64 G44
  refine ⟨l64,?_⟩
  refine Dj (i:=19) [o1,o1,o1,o1,o1,o1,o1,o1,o1,o1,o1,o1,o1,o1,o1,o1,o1,o1,o1,o1,o0,o0] rfl (by kernel_rfl) rfl rfl (Bi (α:=Span) (xs:=[(⟨gn,(gn + (((((L0e picks (((2 * i) + 1))):Nat):Int)).tmod (((a48.high - gn) + 1))))⟩:Span)]) (vs:=[v64]) Tryz.underlying26 Mx Aak rfl (by decide) (Dk (os:=[.tmp 104]) ⟨rfl,trivial⟩) ⟨r64,trivial⟩ rfl (by decide) fun k65 cs65 R65=>⟨l64,?_⟩)
  have G65:Grow ρ64 41 (.slice (some ⟨k65,0,none⟩) 1 1) ([(⟨gn,(gn + (((((L0e picks (((2 * i) + 1))):Nat):Int)).tmod (((a48.high - gn) + 1))))⟩:Span)]:List Span) [(k65,oC cs65.toArray 41)]:=Bs R65 rfl (by decide)
  refine Lr G65 fun ρ67 l67 r67=>?_
  replace OG28_10:=Grow.mono l67 OG28_10
  replace G44:=Grow.mono l67 G44
  refine Ej (Asg ((p_c Ase).trans Asc)) id ?_
  refine Dj (i:=20) [o1,o1,o1,o1,o1,o1,o1,o1,o1,o1,o1,o1,o1,o1,o1,o1,o1,o1,o1,o1,o1,o0] rfl (by kernel_rfl) rfl rfl (Gc (σ:=((k24,oC #[(.slice (some ⟨k21,0,none⟩) 1 1),v44,(.slice none 0 0),(.slice none 0 0)] 36) :: (gr44 ++ σ))) (gr:=og28_10) (xs:=L1c one picks i) (ys:=([(⟨gn,(gn + (((((L0e picks (((2 * i) + 1))):Nat):Int)).tmod (((a48.high - gn) + 1))))⟩:Span)]:List Span)) Tryz.underlying26 Tryz.underlying26 (Ab Tryz.typeInfo41) rfl (Nat.le_of_ble_eq_true rfl) rfl rfl rfl rfl OG28_10 r67 (by simp only [List.length_append,List.length_map,List.length_range,List.length_take,List.length_cons,List.length_nil,L1c] at *; omega) fun v66 gr66 G66=>⟨(Asi l64 l67),?_⟩)
  refine Bg (i:=21) [o1,o1,o1,o1,o1,o1,o1,o1,o1,o1,o1,o1,o1,o1,o1,o1,o1,o1,o1,o1,o1,o1] rfl (by kernel_rfl) rfl (Asi l64 l67) rfl (Cp (v:=v66) rfl) ?_
  refine Ec rfl ?_
  apply k35
  refine Ag rfl rfl ?_
  refine l_v (Ah (v:=(iV ((i:Int)))) h28_11) ?_
  refine l_v (Br rfl rfl (z:=(((i + 1):Nat):Int)) (Bo (by first | rfl | omega | (push_cast; rfl)) (by omega) (by omega))) ?_
  refine l_v (Cp (v:=(iV ((((i + 1):Nat):Int)))) rfl) ?_
  refine Bj (Asg Asd) ?_
  refine Bj (Asg Asc) ?_
  refine Bj (Asg ((p_a Asc).trans Ase)) ?_
  apply Ac
  refine ⟨_,?_,((i + 1)),v44,gr44,v66,gr66,rfl,rfl,(Asi (Asi (Asi l28 l45) l64) l67),rfl,h28_1,h28_2,h28_3,h28_4,h28_9,rfl,rfl,(by omega),(Fy (by rw [Tw ha40]) G44),(Fy (by unfold L1c; rw [List.range_succ,List.map_append]; congr 1; simp only [List.map_cons,List.map_nil]; rw [L1v ha48]; subst hgn_; rfl) G66),trivial⟩
  omega
 have q34:=of_decide_eq_false b34
 refine Bx ?_
 apply k26
 refine w_q rfl rfl fun K68 k68=>?_
 refine Arw (Ax L1e h28_4 r2) fun v69 r69=>?_
 refine l_v (Ah (v:=vo) h28_1) ?_
 have hi_:i = r.measures.length:=by omega
 have hva:=L1g hr1
 refine Arv (Cm (vs:=[v69,vo]) (L2n hr1 r69 ro) Tryz.func12 rfl rfl ⟨rfl,rfl,trivial⟩ fun w70 ρ70 σ70 hc70=>?_)
 obtain ⟨l70,s70,v70_0,w70e,r70_0⟩:=hc70
 replace s70:=s70.symm; subst s70 w70e
 replace rt:=Asj l70 rt
 replace hg:=Glob.mono l70 hg
 replace r2:=At.mono l70 r2
 replace r22:=Asj l70 r22
 replace OG28_9c1:=Grow.mono l70 OG28_9c1
 replace OG28_10:=Grow.mono l70 OG28_10
 refine l_v (Ah (v:=(.tuple #[v70_0,(iV (0))])) rfl) ?_
 refine l_v (Bk (vs:=#[v70_0,(iV (0))]) rfl (v:=v70_0) rfl) ?_
 refine l_v (Bk (vs:=#[v70_0,(iV (0))]) rfl (v:=(iV (0))) rfl) ?_
 refine l_v (Cp (v:=v70_0) rfl) ?_
 refine l_v (Cp (v:=(iV (0))) rfl) ?_
 refine Arx rfl rfl k68 fun K71 k71=>?_
 refine Arw (Ax L1e h28_4 r2) fun v72 r72=>?_
 refine l_v (Ah (v:=vt) h28_2) ?_
 have hvb:=L1g hr2
 refine Arv (Cm (vs:=[v72,vt]) (L2n hr2 r72 rt) Tryz.func12 rfl rfl ⟨rfl,rfl,trivial⟩ fun w73 ρ73 σ73 hc73=>?_)
 obtain ⟨l73,s73,v73_0,w73e,r73_0⟩:=hc73
 replace s73:=s73.symm; subst s73 w73e
 replace hg:=Glob.mono l73 hg
 replace r2:=At.mono l73 r2
 replace r22:=Asj l73 r22
 replace OG28_9c1:=Grow.mono l73 OG28_9c1
 replace OG28_10:=Grow.mono l73 OG28_10
 replace r70_0:=Asj l73 r70_0
 refine l_v (Ah (v:=(.tuple #[v73_0,(iV (0))])) rfl) ?_
 refine l_v (Bk (vs:=#[v73_0,(iV (0))]) rfl (v:=v73_0) rfl) ?_
 refine l_v (Bk (vs:=#[v73_0,(iV (0))]) rfl (v:=(iV (0))) rfl) ?_
 refine l_v (Cp (v:=v73_0) rfl) ?_
 refine l_v (Cp (v:=(iV (0))) rfl) ?_
 refine Arx rfl rfl k71 fun K74 k74=>?_
 refine Arw (Ax L1e h28_4 r2) fun v75 r75=>?_
 refine l_v (Ah (v:=ov28_10) h28_10) ?_
 refine Bj (Asg Ase) ?_
 refine Ca OG28_10 fun ρ76 l76 r76=>?_
 replace hg:=Glob.mono l76 hg
 replace r22:=Asj l76 r22
 replace OG28_9c1:=Grow.mono l76 OG28_9c1
 replace r70_0:=Asj l76 r70_0
 replace r73_0:=Asj l76 r73_0
 replace r75:=Asj l76 r75
 have hrf:L0f r (L1c one picks i) = 0:=by rw [hi_]; exact L2q hr1
 have hvc:=L1g hrf
 refine Arv (Cm (vs:=[v75,ov28_10]) (L2n hrf r75 r76) Tryz.func12 rfl rfl ⟨rfl,rfl,trivial⟩ fun w77 ρ77 σ77 hc77=>?_)
 obtain ⟨l77,s77,v77_0,w77e,r77_0⟩:=hc77
 replace s77:=s77.symm; subst s77 w77e
 replace hg:=Glob.mono l77 hg
 replace r22:=Asj l77 r22
 replace OG28_9c1:=Grow.mono l77 OG28_9c1
 replace r70_0:=Asj l77 r70_0
 replace r73_0:=Asj l77 r73_0
 refine l_v (Ah (v:=(.tuple #[v77_0,(iV (0))])) rfl) ?_
 refine l_v (Bk (vs:=#[v77_0,(iV (0))]) rfl (v:=v77_0) rfl) ?_
 refine l_v (Bk (vs:=#[v77_0,(iV (0))]) rfl (v:=(iV (0))) rfl) ?_
 refine l_v (Cp (v:=v77_0) rfl) ?_
 refine l_v (Cp (v:=(iV (0))) rfl) ?_
 refine Ary rfl rfl k74 fun K78 K79 k78 k79=>?_
 refine l_v (Ah (v:=(iV (0))) rfl) ?_
 refine l_v (Dg rfl rfl) ?_
 refine l_v (Ah (v:=(.bool (false))) rfl) ?_
 refine l_M (iV (0)) (Ar rfl rfl rfl rfl) rfl ?_
 refine Aa (Ar rfl rfl rfl rfl) (Dg rfl rfl) ?_
 refine l_v (Bn rfl rfl (v:=(.bool (false))) rfl) ?_
 refine l_v (Ah (v:=(.bool (false))) rfl) ?_
 refine l_M (iV (0)) (Ar rfl rfl rfl rfl) rfl ?_
 refine Aa (Ar rfl rfl rfl rfl) (Dg rfl rfl) ?_
 refine l_v (Bn rfl rfl (v:=(.bool (false))) rfl) ?_
 refine l_v (Ah (v:=(.bool (false))) rfl) ?_
 refine l_M v70_0 (Ar rfl rfl rfl rfl) rfl ?_
 have g80:=Val.len r70_0
 refine Aa (Ar rfl rfl rfl rfl) (Ci (el:=41) Tryz.underlying26 rfl r70_0) ?_
 refine Aa (Ar rfl rfl rfl rfl) (Cb Tryz.underlying36 rfl rfl ⟨_,Ab Tryz.typeInfo32,rfl⟩ (by decide) h28_9 rfl) ?_
 refine Ae (Ar rfl rfl rfl rfl) (Gu (v:=ov28_9c1) ⟨_,Tryz.underlying32,rfl⟩ rfl (List.mem_append_right _ (List.mem_cons_self ..)) rfl ?_)
 have g81:=Grow.len OG28_9c1
 refine Aa (Ar rfl rfl rfl rfl) (Ajw (el':=9) Tryz.underlying32 rfl OG28_9c1) ?_
 refine Aa (Ar rfl rfl rfl rfl) (Dg rfl rfl) ?_
 refine l_v (Bn rfl rfl (v:=(.bool ((((L0a r one).length:Nat):Int) != ((((r.measures.take i).map Meas.name).length:Nat):Int)))) rfl) ?_
 refine l_v (Ah (v:=(.bool ((((L0a r one).length:Nat):Int) != ((((r.measures.take i).map Meas.name).length:Nat):Int)))) rfl) ?_
 refine Cn ((((L0a r one).length:Nat):Int) != ((((r.measures.take i).map Meas.name).length:Nat):Int)) (fun b82=>?_) (fun b82=>?_)
 ·have q82:=Ls b82
  refine Ap (Bl rfl rfl rfl b82) ?_
  refine Ap (Bl rfl rfl rfl b82) ?_
  refine Ap (Bl rfl rfl rfl b82) ?_
  refine Ap (Bl rfl rfl rfl b82) ?_
  refine Ap (Bl rfl rfl rfl b82) ?_
  refine l_v (Bt rfl b82 (v:=(.bool (true))) rfl) ?_
  refine l_v (Ah (v:=(.bool (true))) rfl) ?_
  refine Ap (Bl rfl rfl rfl rfl) ?_
  refine Ap (Bl rfl rfl rfl rfl) ?_
  refine Ap (Bl rfl rfl rfl rfl) ?_
  refine Ap (Bl rfl rfl rfl rfl) ?_
  refine Ap (Bl rfl rfl rfl rfl) ?_
  refine l_v (Bt rfl rfl (v:=(.bool (true))) rfl) ?_
  refine l_k k79 ?_
  refine Co rfl rfl ?_
  refine w_q rfl rfl fun K83 k83=>?_
  refine l_v (Cp (v:=(.bool (false))) rfl) ?_
  refine l_k k83 ?_
  refine Hc OG28_9c1 fun ρ84 l84 r84=>?_
  refine Aj Ghost.drop ?_
  refine Aj (Asf (Asi (Asi (Asi (Asi (Asi (Asi (Asi l2 l22) l28) l70) l73) l76) l77) l84)) ?_
  refine Aq ?_
  refine hret _ _ _ ⟨rfl,rfl,Eq.trans (b:=(.bool (false))) rfl ?_⟩
  exfalso; simp only [List.length_map,List.length_take] at *; omega
 have q82:=Jh b82
 refine l_M v73_0 (Ar rfl rfl rfl b82) rfl ?_
 have g85:=Val.len r73_0
 refine Aa (Ar rfl rfl rfl b82) (Ci (el:=41) Tryz.underlying26 rfl r73_0) ?_
 refine l_M v70_0 (Ar rfl rfl rfl b82) rfl ?_
 have g86:=Val.len r70_0
 refine Aa (Ar rfl rfl rfl b82) (Ci (el:=41) Tryz.underlying26 rfl r70_0) ?_
 refine Aa (Ar rfl rfl rfl b82) (Dg rfl rfl) ?_
 refine l_v (Bn rfl b82 (v:=(.bool ((((L0a r two).length:Nat):Int) != (((L0a r one).length:Nat):Int)))) rfl) ?_
 refine l_v (Ah (v:=(.bool ((((L0a r two).length:Nat):Int) != (((L0a r one).length:Nat):Int)))) rfl) ?_
 refine Cn ((((L0a r two).length:Nat):Int) != (((L0a r one).length:Nat):Int)) (fun b87=>?_) (fun b87=>?_)
 ·have q87:=Ls b87
  refine Ap (Bl rfl rfl rfl b87) ?_
  refine Ap (Bl rfl rfl rfl b87) ?_
  refine Ap (Bl rfl rfl rfl b87) ?_
  refine Ap (Bl rfl rfl rfl b87) ?_
  refine Ap (Bl rfl rfl rfl b87) ?_
  refine l_v (Bt rfl b87 (v:=(.bool (true))) rfl) ?_
  refine l_k k79 ?_
  refine Co rfl rfl ?_
  refine w_q rfl rfl fun K88 k88=>?_
  refine l_v (Cp (v:=(.bool (false))) rfl) ?_
  refine l_k k88 ?_
  refine Hc OG28_9c1 fun ρ89 l89 r89=>?_
  refine Aj Ghost.drop ?_
  refine Aj (Asf (Asi (Asi (Asi (Asi (Asi (Asi (Asi l2 l22) l28) l70) l73) l76) l77) l89)) ?_
  refine Aq ?_
  refine hret _ _ _ ⟨rfl,rfl,Eq.trans (b:=(.bool (false))) rfl ?_⟩
  exfalso; simp only [List.length_map,List.length_take] at *; omega
 have q87:=Jh b87
 refine l_M v77_0 (Ar rfl rfl rfl b87) rfl ?_
 have g90:=Val.len r77_0
 refine Aa (Ar rfl rfl rfl b87) (Ci (el:=41) Tryz.underlying26 rfl r77_0) ?_
 refine l_M v70_0 (Ar rfl rfl rfl b87) rfl ?_
 have g91:=Val.len r70_0
 refine Aa (Ar rfl rfl rfl b87) (Ci (el:=41) Tryz.underlying26 rfl r70_0) ?_
 refine Aa (Ar rfl rfl rfl b87) (Dg rfl rfl) ?_
 refine l_v (Bn rfl b87 (v:=(.bool ((((L0a r (L1c one picks i)).length:Nat):Int) != (((L0a r one).length:Nat):Int)))) rfl) ?_
 refine l_k k79 ?_
 refine As (t:=(((L0a r (L1c one picks i)).length:Nat):Int) != (((L0a r one).length:Nat):Int)) rfl (fun b92=>?_) (fun b92=>?_)
 ·have q92:=Ls b92
  refine w_q rfl rfl fun K93 k93=>?_
  refine l_v (Cp (v:=(.bool (false))) rfl) ?_
  refine l_k k93 ?_
  refine Hc OG28_9c1 fun ρ94 l94 r94=>?_
  refine Aj Ghost.drop ?_
  refine Aj (Asf (Asi (Asi (Asi (Asi (Asi (Asi (Asi l2 l22) l28) l70) l73) l76) l77) l94)) ?_
  refine Aq ?_
  refine hret _ _ _ ⟨rfl,rfl,Eq.trans (b:=(.bool (false))) rfl ?_⟩
  exfalso; simp only [List.length_map,List.length_take] at *; omega
 have q92:=Jh b92
 refine Al ?_
 apply k78
 refine w_q rfl rfl fun K95 k95=>?_
 refine l_v (Ah (v:=v70_0) rfl) ?_
 have r96:Val ρ77 (.agg #[(.string ((ByteArray.mk #[102,105,114,115,116]))),(iV (0)),(iV (0)),(iV (0)),v70_0]) (⟨(ByteArray.mk #[102,105,114,115,116]),0,⟨0,0⟩,L0a r one⟩:FField):=FField.shut (x:=(⟨(ByteArray.mk #[102,105,114,115,116]),0,⟨0,0⟩,L0a r one⟩:FField)) (show ((ByteArray.mk #[102,105,114,115,116])).size < 2 ^ 60 from Nat.le_of_ble_eq_true rfl) (show I64 (0) from by constructor <;> omega) (show I64 (0) from by constructor <;> omega) (show I64 (0) from by constructor <;> omega) r70_0
 refine l_v (Dn (ns:=[1,1,2,1]) (vs:=[(0,(.string ((ByteArray.mk #[102,105,114,115,116])))),(3,v70_0)]) (zc:=Aah) (cs:=[(.string ((ByteArray.mk #[102,105,114,115,116]))),(iV (0)),(iV (0)),(iV (0)),v70_0]) Tryz.underlying47 Xu rfl ⟨⟨_,Ab Tryz.typeInfo9,rfl⟩,⟨_,Ab Tryz.typeInfo3,rfl⟩,⟨_,Ab Tryz.typeInfo41,rfl⟩,⟨_,Ab Tryz.typeInfo26,rfl⟩,trivial⟩ (EvB.map ⟨⟨rfl,rfl⟩,⟨rfl,rfl⟩,trivial⟩) ((Be (cs:=[(.string ((ByteArray.mk #[102,105,114,115,116])))]) rfl rfl (Nat.le_of_ble_eq_true rfl)).trans ((Be (cs:=[v70_0]) (Val.cells_l r70_0) rfl (Nat.le_of_ble_eq_true rfl)).trans rfl))) ?_
 refine l_v (Ah (v:=v73_0) rfl) ?_
 have r97:Val ρ77 (.agg #[(.string ((ByteArray.mk #[115,101,99,111,110,100]))),(iV (0)),(iV (0)),(iV (0)),v73_0]) (⟨(ByteArray.mk #[115,101,99,111,110,100]),0,⟨0,0⟩,L0a r two⟩:FField):=FField.shut (x:=(⟨(ByteArray.mk #[115,101,99,111,110,100]),0,⟨0,0⟩,L0a r two⟩:FField)) (show ((ByteArray.mk #[115,101,99,111,110,100])).size < 2 ^ 60 from Nat.le_of_ble_eq_true rfl) (show I64 (0) from by constructor <;> omega) (show I64 (0) from by constructor <;> omega) (show I64 (0) from by constructor <;> omega) r73_0
 refine l_v (Dn (ns:=[1,1,2,1]) (vs:=[(0,(.string ((ByteArray.mk #[115,101,99,111,110,100])))),(3,v73_0)]) (zc:=Aah) (cs:=[(.string ((ByteArray.mk #[115,101,99,111,110,100]))),(iV (0)),(iV (0)),(iV (0)),v73_0]) Tryz.underlying47 Xu rfl ⟨⟨_,Ab Tryz.typeInfo9,rfl⟩,⟨_,Ab Tryz.typeInfo3,rfl⟩,⟨_,Ab Tryz.typeInfo41,rfl⟩,⟨_,Ab Tryz.typeInfo26,rfl⟩,trivial⟩ (EvB.map ⟨⟨rfl,rfl⟩,⟨rfl,rfl⟩,trivial⟩) ((Be (cs:=[(.string ((ByteArray.mk #[115,101,99,111,110,100])))]) rfl rfl (Nat.le_of_ble_eq_true rfl)).trans ((Be (cs:=[v73_0]) (Val.cells_l r73_0) rfl (Nat.le_of_ble_eq_true rfl)).trans rfl))) ?_
 refine Arv (Bi (α:=FField) (xs:=[(⟨(ByteArray.mk #[102,105,114,115,116]),0,⟨0,0⟩,L0a r one⟩:FField),(⟨(ByteArray.mk #[115,101,99,111,110,100]),0,⟨0,0⟩,L0a r two⟩:FField)]) (vs:=[(.agg #[(.string ((ByteArray.mk #[102,105,114,115,116]))),(iV (0)),(iV (0)),(iV (0)),v70_0]),(.agg #[(.string ((ByteArray.mk #[115,101,99,111,110,100]))),(iV (0)),(iV (0)),(iV (0)),v73_0])]) Tryz.underlying33 Lo Xu rfl (by decide) (Dk (os:=[.tmp 158,.tmp 160]) ⟨rfl,rfl,trivial⟩) ⟨r96,r97,trivial⟩ rfl (by decide) fun k98 cs98 R98=>?_)
 have G98:Grow ρ77 47 (.slice (some ⟨k98,0,none⟩) 2 2) ([(⟨(ByteArray.mk #[102,105,114,115,116]),0,⟨0,0⟩,L0a r one⟩:FField),(⟨(ByteArray.mk #[115,101,99,111,110,100]),0,⟨0,0⟩,L0a r two⟩:FField)]:List FField) [(k98,oC cs98.toArray 47)]:=Bs R98 rfl (by decide)
 refine l_v (Cb Tryz.underlying36 rfl rfl ⟨_,Ab Tryz.typeInfo33,rfl⟩ (by decide) h28_9 rfl) ?_
 refine Bj (Asg ((p_c Asd).trans Arz)) ?_
 refine Cx rfl (Cz (j:=0) (v:=(.slice (some ⟨k98,0,none⟩) 2 2)) ⟨_,Ab Tryz.typeInfo33,rfl⟩ rfl rfl (Grow.single G98) rfl (Nat.le_of_ble_eq_true rfl) ?_)
 refine Ary rfl rfl k95 fun K99 K100 k99 k100=>?_
 refine Bj (Asg ((p_c Asc).trans Asc)) ?_
 refine Ca OG28_9c1 fun ρ101 l101 r101=>?_
 replace hg:=Glob.mono l101 hg
 replace r22:=Asj l101 r22
 replace r70_0:=Asj l101 r70_0
 replace r77_0:=Asj l101 r77_0
 replace G98:=Grow.mono l101 G98
 refine Bj (Asg Arz) ?_
 refine Ca G98 fun ρ102 l102 r102=>?_
 replace hg:=Glob.mono l102 hg
 replace r22:=Asj l102 r22
 replace r70_0:=Asj l102 r70_0
 replace r77_0:=Asj l102 r77_0
 replace r101:=Asj l102 r101
 refine Arv (Xo (i:=0) (cs:=[(.slice (some ⟨k21,0,none⟩) 1 1),ov28_9c1,(.slice (some ⟨k98,0,none⟩) 2 2),(.slice none 0 0)]) (rs:=[]) ⟨_,Tryz.underlying36,rfl⟩ ⟨_,Ab Tryz.typeInfo36,rfl⟩ h28_9 rfl rfl rfl ?_)
 have r103:Val ρ102 (.agg #[(.slice (some ⟨k21,0,none⟩) 1 1),ov28_9c1,(.slice (some ⟨k98,0,none⟩) 2 2),(.slice none 0 0)]) (⟨([(ByteArray.mk #[97,108,108])]:List ByteArray),(r.measures.take i).map Meas.name,([(⟨(ByteArray.mk #[102,105,114,115,116]),0,⟨0,0⟩,L0a r one⟩:FField),(⟨(ByteArray.mk #[115,101,99,111,110,100]),0,⟨0,0⟩,L0a r two⟩:FField)]:List FField),[]⟩:Market):=Market.shut (x:=(⟨([(ByteArray.mk #[97,108,108])]:List ByteArray),(r.measures.take i).map Meas.name,([(⟨(ByteArray.mk #[102,105,114,115,116]),0,⟨0,0⟩,L0a r one⟩:FField),(⟨(ByteArray.mk #[115,101,99,111,110,100]),0,⟨0,0⟩,L0a r two⟩:FField)]:List FField),[]⟩:Market)) r22 r101 r102 Gx
 have hM:((⟨([(ByteArray.mk #[97,108,108])]:List ByteArray),(r.measures.take i).map Meas.name,([(⟨(ByteArray.mk #[102,105,114,115,116]),0,⟨0,0⟩,L0a r one⟩:FField),(⟨(ByteArray.mk #[115,101,99,111,110,100]),0,⟨0,0⟩,L0a r two⟩:FField)]:List FField),[]⟩:Market)) = L0z r (L0a r one) (L0a r two):=by unfold L0z; rw [hi_,List.take_length]
 refine Arv (Bm (L3g hM r103) Tryz.func13 rfl rfl ⟨rfl,trivial⟩ ?_)
 refine l_v (Dg rfl rfl) ?_
 refine l_k k100 ?_
 refine As (t:=Cf (L0z r (L0a r one) (L0a r two)) != 0) rfl (fun b104=>?_) (fun b104=>?_)
 ·have q104:=Ls b104
  refine w_q rfl rfl fun K105 k105=>?_
  refine Arv (Bm (c_tells hg (L3l hnr)) Tryz.func9 rfl rfl trivial ?_)
  refine l_v (Cp (v:=(.bool (true))) rfl) ?_
  refine l_k k105 ?_
  refine Aj Ghost.drop ?_
  refine Aj (Asf (Asi (Asi (Asi (Asi (Asi (Asi (Asi (Asi l2 l22) l28) l70) l73) l76) l77) l101) l102)) ?_
  refine Aq ?_
  refine hret _ _ _ ⟨rfl,rfl,Eq.trans (b:=(.bool (true))) rfl ?_⟩
  rfl
 have hm0:=Jh b104
 obtain ⟨hA1,hA2,hO1,hO2,hO3⟩:=L6x (picks:=picks) hr1 hm0
 have q104:=Jh b104
 refine Al ?_
 apply k99
 refine w_q rfl rfl fun K106 k106=>?_
 refine Arv (Xo (i:=0) (cs:=[(.slice (some ⟨k21,0,none⟩) 1 1),ov28_9c1,(.slice (some ⟨k98,0,none⟩) 2 2),(.slice none 0 0)]) (rs:=[]) ⟨_,Tryz.underlying36,rfl⟩ ⟨_,Ab Tryz.typeInfo36,rfl⟩ h28_9 rfl rfl rfl ?_)
 have r107:Val ρ102 (.agg #[(.slice (some ⟨k21,0,none⟩) 1 1),ov28_9c1,(.slice (some ⟨k98,0,none⟩) 2 2),(.slice none 0 0)]) (⟨([(ByteArray.mk #[97,108,108])]:List ByteArray),(r.measures.take i).map Meas.name,([(⟨(ByteArray.mk #[102,105,114,115,116]),0,⟨0,0⟩,L0a r one⟩:FField),(⟨(ByteArray.mk #[115,101,99,111,110,100]),0,⟨0,0⟩,L0a r two⟩:FField)]:List FField),[]⟩:Market):=Market.shut (x:=(⟨([(ByteArray.mk #[97,108,108])]:List ByteArray),(r.measures.take i).map Meas.name,([(⟨(ByteArray.mk #[102,105,114,115,116]),0,⟨0,0⟩,L0a r one⟩:FField),(⟨(ByteArray.mk #[115,101,99,111,110,100]),0,⟨0,0⟩,L0a r two⟩:FField)]:List FField),[]⟩:Market)) r22 r101 r102 Gx
 refine l_v (Ah (v:=v70_0) rfl) ?_
 have hM108:((⟨([(ByteArray.mk #[97,108,108])]:List ByteArray),(r.measures.take i).map Meas.name,([(⟨(ByteArray.mk #[102,105,114,115,116]),0,⟨0,0⟩,L0a r one⟩:FField),(⟨(ByteArray.mk #[115,101,99,111,110,100]),0,⟨0,0⟩,L0a r two⟩:FField)]:List FField),[]⟩:Market)) = L0z r (L0a r one) (L0a r two):=by unfold L0z; rw [hi_,List.take_length]
 obtain ⟨lo,hlo⟩:∃ l,Sn (L0z r (L0a r one) (L0a r two)) (L0a r one) = l:=⟨_,rfl⟩
 have hP1:(0:Int) ∈ lo:=by rw [← hlo]; exact hO1
 refine Arv (Cm (vs:=[(.agg #[(.slice (some ⟨k21,0,none⟩) 1 1),ov28_9c1,(.slice (some ⟨k98,0,none⟩) 2 2),(.slice none 0 0)]),v70_0]) (L3y hM108 hA1 hlo r107 r70_0) Tryz.func14 rfl rfl ⟨rfl,rfl,trivial⟩ fun w109 ρ109 σ109 hc109=>?_)
 obtain ⟨l109,s109,v109_0,w109e,r109_0⟩:=hc109
 replace s109:=s109.symm; subst s109 w109e
 replace hg:=Glob.mono l109 hg
 replace r22:=Asj l109 r22
 replace r77_0:=Asj l109 r77_0
 replace r101:=Asj l109 r101
 replace r102:=Asj l109 r102
 refine l_v (Ah (v:=(.tuple #[v109_0,(iV (0))])) rfl) ?_
 refine l_v (Bk (vs:=#[v109_0,(iV (0))]) rfl (v:=v109_0) rfl) ?_
 refine l_v (Bk (vs:=#[v109_0,(iV (0))]) rfl (v:=(iV (0))) rfl) ?_
 refine l_v (Cp (v:=v109_0) rfl) ?_
 refine l_v (Cp (v:=(iV (0))) rfl) ?_
 refine Arx rfl rfl k106 fun K110 k110=>?_
 refine Arv (Xo (i:=0) (cs:=[(.slice (some ⟨k21,0,none⟩) 1 1),ov28_9c1,(.slice (some ⟨k98,0,none⟩) 2 2),(.slice none 0 0)]) (rs:=[]) ⟨_,Tryz.underlying36,rfl⟩ ⟨_,Ab Tryz.typeInfo36,rfl⟩ h28_9 rfl rfl rfl ?_)
 have r111:Val ρ109 (.agg #[(.slice (some ⟨k21,0,none⟩) 1 1),ov28_9c1,(.slice (some ⟨k98,0,none⟩) 2 2),(.slice none 0 0)]) (⟨([(ByteArray.mk #[97,108,108])]:List ByteArray),(r.measures.take i).map Meas.name,([(⟨(ByteArray.mk #[102,105,114,115,116]),0,⟨0,0⟩,L0a r one⟩:FField),(⟨(ByteArray.mk #[115,101,99,111,110,100]),0,⟨0,0⟩,L0a r two⟩:FField)]:List FField),[]⟩:Market):=Market.shut (x:=(⟨([(ByteArray.mk #[97,108,108])]:List ByteArray),(r.measures.take i).map Meas.name,([(⟨(ByteArray.mk #[102,105,114,115,116]),0,⟨0,0⟩,L0a r one⟩:FField),(⟨(ByteArray.mk #[115,101,99,111,110,100]),0,⟨0,0⟩,L0a r two⟩:FField)]:List FField),[]⟩:Market)) r22 r101 r102 Gx
 refine l_v (Ah (v:=v77_0) rfl) ?_
 have hM112:((⟨([(ByteArray.mk #[97,108,108])]:List ByteArray),(r.measures.take i).map Meas.name,([(⟨(ByteArray.mk #[102,105,114,115,116]),0,⟨0,0⟩,L0a r one⟩:FField),(⟨(ByteArray.mk #[115,101,99,111,110,100]),0,⟨0,0⟩,L0a r two⟩:FField)]:List FField),[]⟩:Market)) = L0z r (L0a r one) (L0a r two):=by unfold L0z; rw [hi_,List.take_length]
 obtain ⟨lw,hlw⟩:∃ l,Sn (L0z r (L0a r one) (L0a r two)) (L0a r (L1c one picks i)) = l:=⟨_,rfl⟩
 have hB2:Ee (L0z r (L0a r one) (L0a r two)) (L0a r (L1c one picks i)) = 0:=by rw [hi_]; exact hA2
 have hP2:(0:Int) ∈ lw:=by rw [← hlw,hi_]; exact hO2
 have hP3:∀ z ∈ lw,z ∈ lo:=by rw [← hlw,← hlo,hi_]; exact hO3
 refine Arv (Cm (vs:=[(.agg #[(.slice (some ⟨k21,0,none⟩) 1 1),ov28_9c1,(.slice (some ⟨k98,0,none⟩) 2 2),(.slice none 0 0)]),v77_0]) (L3y hM112 hB2 hlw r111 r77_0) Tryz.func14 rfl rfl ⟨rfl,rfl,trivial⟩ fun w113 ρ113 σ113 hc113=>?_)
 obtain ⟨l113,s113,v113_0,w113e,r113_0⟩:=hc113
 replace s113:=s113.symm; subst s113 w113e
 replace hg:=Glob.mono l113 hg
 replace r109_0:=Asj l113 r109_0
 refine l_v (Ah (v:=(.tuple #[v113_0,(iV (0))])) rfl) ?_
 refine l_v (Bk (vs:=#[v113_0,(iV (0))]) rfl (v:=v113_0) rfl) ?_
 refine l_v (Bk (vs:=#[v113_0,(iV (0))]) rfl (v:=(iV (0))) rfl) ?_
 refine l_v (Cp (v:=v113_0) rfl) ?_
 refine l_v (Cp (v:=(iV (0))) rfl) ?_
 refine Ary rfl rfl k110 fun K114 K115 k114 k115=>?_
 refine l_v (Ah (v:=(iV (0))) rfl) ?_
 refine l_v (Dg rfl rfl) ?_
 refine l_v (Ah (v:=(.bool (false))) rfl) ?_
 refine l_M (iV (0)) (Ar rfl rfl rfl rfl) rfl ?_
 refine Aa (Ar rfl rfl rfl rfl) (Dg rfl rfl) ?_
 refine l_v (Bn rfl rfl (v:=(.bool (false))) rfl) ?_
 refine l_v (Ah (v:=(.bool (false))) rfl) ?_
 refine l_M v109_0 (Ar rfl rfl rfl rfl) rfl ?_
 refine Ae (Ar rfl rfl rfl rfl) (Bm (L6p r109_0) Tryz.func15 rfl rfl ⟨rfl,rfl,trivial⟩ ?_)
 refine Aa (Ar rfl rfl rfl rfl) (Iy rfl) ?_
 refine l_v (Bn rfl rfl (v:=(.bool (!(decide (0 ∈ lo))))) rfl) ?_
 refine l_v (Ah (v:=(.bool (!(decide (0 ∈ lo))))) rfl) ?_
 refine l_M v113_0 (Ar rfl rfl rfl (not_t (decide_eq_true hP1))) rfl ?_
 refine Ae (Ar rfl rfl rfl (not_t (decide_eq_true hP1))) (Bm (L6p r113_0) Tryz.func15 rfl rfl ⟨rfl,rfl,trivial⟩ ?_)
 refine Aa (Ar rfl rfl rfl (not_t (decide_eq_true hP1))) (Iy rfl) ?_
 refine l_v (Bn rfl (not_t (decide_eq_true hP1)) (v:=(.bool (!(decide (0 ∈ lw))))) rfl) ?_
 refine l_k k115 ?_
 refine Cg rfl (not_t (decide_eq_true hP2)) ?_
 refine Al ?_
 apply k114
 refine Asb rfl rfl fun K116 K117 k116 k117=>?_
 refine l_v (Cp (v:=(iV (0))) rfl) ?_
 refine l_k k117 ?_
 refine Ao ?_
 refine Cc (fun mm ee dd ρ' σ'=>∃ (z:Nat),(lw.length - z) = mm∧[] = dd∧ρ113 = ρ'∧((k24,oC #[(.slice (some ⟨k21,0,none⟩) 1 1),ov28_9c1,(.slice (some ⟨k98,0,none⟩) 2 2),(.slice none 0 0)] 36) :: σ) = σ'∧ee 19 = v109_0∧ee 20 = v113_0∧ee 21 = (iV ((z:Int)))∧(z ≤ lw.length)∧True) (m:=_) ⟨0,rfl,rfl,rfl,rfl,rfl,rfl,rfl,(Nat.zero_le _),trivial⟩ ?_
 rintro m118 e118 _ _ _ ⟨z,rfl,rfl,rfl,rfl,h118_19,h118_20,h118_21,p118_0,_⟩
 refine Asb rfl rfl fun K119 K120 k119 k120=>?_
 refine l_v (Ah (v:=(iV ((z:Int)))) h118_21) ?_
 refine l_v (Ah (v:=v113_0) h118_20) ?_
 have g121:=Val.len r113_0
 refine l_v (Ci (el:=3) Tryz.underlying49 rfl r113_0) ?_
 refine l_v (Da rfl rfl) ?_
 refine l_k k120 ?_
 refine As (t:=decide ((z:Int) < ((lw.length:Nat):Int))) rfl (fun b122=>?_) (fun b122=>?_)
 ·have q122:=of_decide_eq_true b122
  refine Al ?_
  apply k119
  refine Ai fun K123 k123=>?_
  refine Ao ?_
  refine w_q rfl rfl fun K124 k124=>?_
  refine l_v (Ah (v:=v109_0) h118_19) ?_
  refine l_v (Ah (v:=v113_0) h118_20) ?_
  refine l_v (Ah (v:=(iV ((z:Int)))) h118_21) ?_
  obtain ⟨a126,ha126⟩:=Ed (xs:=lw) (i:=z) (by omega)
  refine Arw (Ch z Tryz.underlying49 ty3 rfl r113_0 (q:=(z:Int)) rfl rfl ha126) fun v125 r125=>?_
  have ⟨g127a,g127b⟩:=At.rng r125
  refine l_v (Bc ty3 rfl r125) ?_
  refine Arv (Bm (L6p r109_0) Tryz.func15 rfl rfl ⟨rfl,rfl,trivial⟩ ?_)
  refine l_v (Iy rfl) ?_
  refine l_k k124 ?_
  refine Cg rfl (not_t (decide_eq_true (hP3 _ (List.mem_of_getElem? ha126)))) ?_
  refine Al ?_
  apply k123
  refine Ag rfl rfl ?_
  refine l_v (Ah (v:=(iV ((z:Int)))) h118_21) ?_
  refine l_v (Br rfl rfl (z:=(((z + 1):Nat):Int)) (Bo (by first | rfl | omega | (push_cast; rfl)) (by omega) (by omega))) ?_
  refine l_v (Cp (v:=(iV ((((z + 1):Nat):Int)))) rfl) ?_
  apply Ac
  refine ⟨_,?_,((z + 1)),rfl,rfl,rfl,rfl,h118_19,h118_20,rfl,(by omega),trivial⟩
  omega
 have q122:=of_decide_eq_false b122
 refine Bx ?_
 apply k116
 refine w_q rfl rfl fun K128 k128=>?_
 refine Arv (Bm (c_tells hg (L3l hnr)) Tryz.func9 rfl rfl trivial ?_)
 refine l_v (Cp (v:=(.bool (true))) rfl) ?_
 refine l_k k128 ?_
 refine Aj Ghost.drop ?_
 refine Aj (Asf (Asi (Asi (Asi (Asi (Asi (Asi (Asi (Asi (Asi (Asi l2 l22) l28) l70) l73) l76) l77) l101) l102) l109) l113)) ?_
 refine Aq ?_
 refine hret _ _ _ ⟨rfl,rfl,Eq.trans (b:=(.bool (true))) rfl ?_⟩
 rfl
end Go.Proofs.YtphgjjmlnkgghaaGreatDoor

namespace Go.Proofs.YtphgjjmlnkgghaaGreatDoor
set_option maxHeartbeats 1000000
open Go Go.WideShapes
theorem L7n:Api GPoint 227:=⟨by kernel_rfl,fun H enc W fuel cs x h hw=>by
  obtain ⟨xs,n,_,rfl,hcl,hl,hf⟩:=DataW.trod_struct Tryz.underlying227 h
  rw [show Tryz.prog.cellsOf 227 = 2 from by kernel_rfl] at hcl
  obtain ⟨a0,r0⟩:=L0w (i:=0) Tryz.underlying227 hl hf hw rfl rfl (show _ = 0 from rfl) (L2l Tryz.underlying3 (by kernel_rfl))
  obtain ⟨a1,r1⟩:=L0w (i:=1) Tryz.underlying227 hl hf hw rfl rfl (show _ = 1 from rfl) (L2l Tryz.underlying3 (by kernel_rfl))
  refine ⟨⟨a0,a1⟩,?_⟩
  have e0:cs = cs.drop 0:=rfl
  rw [e0]
  exact ⟨(cs.drop 0).take 1,cs.drop 1,(L2p cs 0 1).trans (by rfl),r0,(show Dat.rep (roW W) (cs.drop 1) a1 from by (have:=r1; rw [List.take_of_length_le (by rw [List.length_drop,hcl]; decide)] at this; exact this))⟩⟩
theorem L7l:Api Meas 39:=⟨by kernel_rfl,fun H enc W fuel cs x h hw=>by
  obtain ⟨xs,n,_,rfl,hcl,hl,hf⟩:=DataW.trod_struct Tryz.underlying39 h
  rw [show Tryz.prog.cellsOf 39 = 2 from by kernel_rfl] at hcl
  obtain ⟨a0,r0⟩:=L0w (i:=0) Tryz.underlying39 hl hf hw rfl rfl (show _ = 0 from rfl) (L5q Tryz.underlying9 (by kernel_rfl))
  obtain ⟨a1,r1⟩:=L0w (i:=1) Tryz.underlying39 hl hf hw rfl rfl (show _ = 1 from rfl) (L1i Tryz.underlying37 (by kernel_rfl) (Nat.le_of_ble_eq_true (by kernel_rfl)) (by decide) L7n)
  refine ⟨⟨a0,a1⟩,?_⟩
  have e0:cs = cs.drop 0:=rfl
  rw [e0]
  exact ⟨(cs.drop 0).take 1,cs.drop 1,(L2p cs 0 1).trans (by rfl),r0,(show Dat.rep (roW W) (cs.drop 1) a1 from by (have:=r1; rw [List.take_of_length_le (by rw [List.length_drop,hcl]; decide)] at this; exact this))⟩⟩
theorem L7m:Api GGrade 100:=⟨by kernel_rfl,fun H enc W fuel cs x h hw=>by
  obtain ⟨xs,n,_,rfl,hcl,hl,hf⟩:=DataW.trod_struct Tryz.underlying100 h
  rw [show Tryz.prog.cellsOf 100 = 3 from by kernel_rfl] at hcl
  obtain ⟨a0,r0⟩:=L0w (i:=0) Tryz.underlying100 hl hf hw rfl rfl (show _ = 0 from rfl) (L5q Tryz.underlying9 (by kernel_rfl))
  obtain ⟨a1,r1⟩:=L0w (i:=1) Tryz.underlying100 hl hf hw rfl rfl (show _ = 1 from rfl) (L1i Tryz.underlying26 (by kernel_rfl) (Nat.le_of_ble_eq_true (by kernel_rfl)) (by decide) L6s)
  obtain ⟨a2,r2⟩:=L0w (i:=2) Tryz.underlying100 hl hf hw rfl rfl (show _ = 2 from rfl) (L2l Tryz.underlying3 (by kernel_rfl))
  refine ⟨⟨a0,a1,a2⟩,?_⟩
  have e0:cs = cs.drop 0:=rfl
  rw [e0]
  exact ⟨(cs.drop 0).take 1,cs.drop 1,(L2p cs 0 1).trans (by rfl),r0,⟨(cs.drop 1).take 1,cs.drop 2,(L2p cs 1 1).trans (by rfl),r1,(show Dat.rep (roW W) (cs.drop 2) a2 from by (have:=r2; rw [List.take_of_length_le (by rw [List.length_drop,hcl]; decide)] at this; exact this))⟩⟩⟩
theorem L7k:Api GRule 25:=⟨by kernel_rfl,fun H enc W fuel cs x h hw=>by
  obtain ⟨xs,n,_,rfl,hcl,hl,hf⟩:=DataW.trod_struct Tryz.underlying25 h
  rw [show Tryz.prog.cellsOf 25 = 2 from by kernel_rfl] at hcl
  obtain ⟨a0,r0⟩:=L0w (i:=0) Tryz.underlying25 hl hf hw rfl rfl (show _ = 0 from rfl) (L1i Tryz.underlying22 (by kernel_rfl) (Nat.le_of_ble_eq_true (by kernel_rfl)) (by decide) L7l)
  obtain ⟨a1,r1⟩:=L0w (i:=1) Tryz.underlying25 hl hf hw rfl rfl (show _ = 1 from rfl) (L1i Tryz.underlying23 (by kernel_rfl) (Nat.le_of_ble_eq_true (by kernel_rfl)) (by decide) L7m)
  refine ⟨⟨a0,a1⟩,?_⟩
  have e0:cs = cs.drop 0:=rfl
  rw [e0]
  exact ⟨(cs.drop 0).take 1,cs.drop 1,(L2p cs 0 1).trans (by rfl),r0,(show Dat.rep (roW W) (cs.drop 1) a1 from by (have:=r1; rw [List.take_of_length_le (by rw [List.length_drop,hcl]; decide)] at this; exact this))⟩⟩
end Go.Proofs.YtphgjjmlnkgghaaGreatDoor

namespace Go.Proofs.YtphgjjmlnkgghaaGreatDoor
set_option maxHeartbeats 1000000
open Go Go.WideShapes Go.ChangeShapes Go.RowKit Go.Conc
set_option maxRecDepth 100000
theorem L2x (os:Os) (started:os.Started) (H:Type) (enc:TypeId × Value→H):ReturnsInLeavingWide {} Tryz.checked os 3 .any (Apj H enc Rows.fakeReadSpec Tryz.f3) (Rows.fakeReadSpec.post enc Tryz.prog Tryz.f3 false true false false):=by
  refine law_lift (r:=8) os started H enc Tryz.func3 rfl rfl (by kernel_rfl) (by decide) (fun ds hd=>?_)
    (ChangeSpec.witness_shaped (enc:=enc) (C:=Tryz.checked) (os:=os) (X:=fun w _=>laidMetH Tryz.prog laidL w) false (World.doorLaid Tryz.prog 2000 os) #[.agg #[.slice none 0 0,.slice none 0 0],.slice none 0 0,.slice none 0 0,.slice none 0 0] 8 rfl (World.shaped_of_RefB (by kernel_rfl) (by kernel_rfl)) (by kernel_rfl) (by kernel_rfl) (by kernel_rfl) (door_met os _)) ?_
  · match ds,hd with
    | [d1,d2,d3,d4],_=>rfl
  · intro W args ds ps hv hA hw hg
    obtain ⟨hl1,hl2⟩:=Sb hA
    match args,hl1,ds,hl2,hA with
    | [v1,v2,v3,v4],_,[d1,d2,d3,d4],_,⟨p1,q1,h1,⟨p2,q2,h2,⟨p3,q3,h3,⟨p4,q4,h4,_,_⟩,_⟩,_⟩,_⟩ =>
      obtain ⟨b1,k1⟩:=hv 0 25 v1 rfl rfl
      obtain ⟨b2,k2⟩:=hv 1 26 v2 rfl rfl
      obtain ⟨b3,k3⟩:=hv 2 26 v3 rfl rfl
      obtain ⟨b4,k4⟩:=hv 3 27 v4 rfl rfl
      obtain ⟨x1,rx1⟩:=arg_struct L7k rfl Tryz.underlying25 k1 h1 (L1y hw (j:=0) rfl rfl)
      obtain ⟨x2,rx2⟩:=arg_slice (L1i Tryz.underlying26 (by kernel_rfl) (Nat.le_of_ble_eq_true (by kernel_rfl)) (by decide) L6s) Tryz.underlying26 k2 h2 (L1y hw (j:=1) rfl rfl)
      obtain ⟨x3,rx3⟩:=arg_slice (L1i Tryz.underlying26 (by kernel_rfl) (Nat.le_of_ble_eq_true (by kernel_rfl)) (by decide) L6s) Tryz.underlying26 k3 h3 (L1y hw (j:=2) rfl rfl)
      obtain ⟨x4,rx4⟩:=arg_slice (L1i Tryz.underlying27 (by kernel_rfl) (Nat.le_of_ble_eq_true (by kernel_rfl)) (by decide) (L7z Tryz.underlying75 (by kernel_rfl))) Tryz.underlying27 k4 h4 (L1y hw (j:=3) rfl rfl)
      exact L5d hg (fun c vs h=>by cases h) rx1 rx2 rx3 rx4
theorem L4k:Rows.FakeReadSaid :=
  OpenClaim.holds_of_wide_leaving 3 Tryz.f3 rfl rfl rfl rfl rfl rfl rfl ⟨rfl,rfl,rfl,rfl,rfl⟩ rfl rfl rfl rfl rfl (by kernel_rfl) Tryz.func3 (by kernel_rfl)
    (of_decide_eq_true (by kernel_rfl)) (by unfold Func.isWrapper; first | (rw [if_pos (by decide +kernel)]; kernel_rfl) | (rw [if_neg (by decide +kernel)]; exact ⟨rfl,rfl⟩))
    (fun os started H enc _=>L2x os started H enc)
theorem fakeRead_holds:Rows.FakeReadCardSaid :=
  tied_goes .later [.funcs,.data] true (true,"64c05d2246e4d379d7c851f58b7b5f5719ef82ed1ca4210b0e7462fe21a2bfab") false L4k (by kernel_rfl) fakeRead_row_tie rfl ⟨rfl,rfl⟩ (by kernel_rfl) rfl
    (fun f fn hf hfn=>by
      obtain rfl:f = 3:=Option.some.inj ((show Tryz.prog.funcNamed "crocus/crocuslaw08.FakeRead" = some 3 by kernel_rfl).symm.trans hf) |>.symm
      obtain rfl:fn = Tryz.f3:=(Option.some.inj (Tryz.func3.symm.trans hfn)).symm
      exact ⟨by kernel_rfl,fun j t ht=>by
        have h2:t = 25∨t = 26∨t = 27:=by
          match j,ht with
          | 0,h=>exact .inl (Option.some.inj h).symm
          | 1,h=>exact .inr (.inl (Option.some.inj h).symm)
          | 2,h=>exact .inr (.inl (Option.some.inj h).symm)
          | 3,h=>exact .inr (.inr ((Option.some.inj h).symm))
        rcases h2 with rfl | rfl | rfl
        · exact (show Tryz.prog.wantsStandIn 25 = false by kernel_rfl)
        · exact (show Tryz.prog.wantsStandIn 26 = false by kernel_rfl)
        · exact (show Tryz.prog.wantsStandIn 27 = false by kernel_rfl)⟩)
    (by kernel_rfl)
end Go.Proofs.YtphgjjmlnkgghaaGreatDoor
